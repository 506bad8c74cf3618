import PyProof.Rows.All
import Wide.All
import OpenK.AllK
import Wide.FinOn
import HandS.ForMost
import HandS.ForExc
import HandS.Lambda
import KE.KDictKeyed
import HandS.IsInst
import HandS.Wide
import HandS.TupAny
import HandS.TupLe
import HandS.Flow
import KE.DataCmp
import KE.DataEq
import HandS.Zip
import HandS.Style
import HandS.SortInts
import KE.KTupSum
import PyProof.Rows.SeqMore
import HandS.TupMul
import PyProof.ReprReads
import PyProof.ReprRoads
import KE.SortData
import HandS.SetFor
import HandS.RaiseMore
import HandS.SortKw
import KE.DataMinMax
import KE.DataFind
import HandS.FStrTup
import KE.GoesMore
import PyProof.ReprLen
import KE.KRevSl
import HandS.ExcIs
import HandS.TryOnly
import HandS.Codes
import HandS.EndTab
import KE.KNestM
import KE.KLam
import HandS.WideBits
import KE.KDictSum
import HandS.DictTup
import HandS.Conv
import HandS.SetKeys
import KE.KDictCopyH
import HandS.TupLen
import KE.KDictPairs
import KE.KDictDisplayH
import PyProof.DictTable
import HandS.Comp
import HandS.SortOrd
import PyProof.Rows.SetFrom
import HandS.DictEq
import HandS.DeepEq
import HandS.Iter
import HandS.TupSets
import HandS.Strs
import HandS.Text
import HandS.Steps
import PyProof.StrOps2
import PyProof.Rows.ReprOcc
import PySem.Challenge.RW_emptierbox_k59_shares_loads_rules_as_tex
set_option Elab.async false
set_option linter.all false
set_option maxRecDepth 100000
set_option maxHeartbeats 4000000
/-! A small machine by values: what Python's text does with data, as total functions; each construct's rule over the hand layer. -/
namespace Vm
open PySem L2
abbrev D := PyData
abbrev Fg := PySem.W.Frag
/-- a dict's key as data -/
def kD : L2.Key → D
  | .inl i => .int i
  | .inr x => .str x
/-- a tuple of keys as data -/
def tupK (ks : List L2.Key) : D := .tuple (ks.map kD)
/-- ahead of the entries of a dict whose keys are tuples -/
def tagT : D × D := (.list [], .none)
def isTag : List (D × D) → Bool
  | (.list _, _) :: _ => true
  | _ => false
/-- ahead of the entries of a dict whose keys are tuples of tuples -/
def tagN : D × D := (.list [.none], .none)
/-- ahead of the entries of a locked dict whose keys are plain -/
def tagF : D × D := (.list [.bool true], .none)
/-! ### a dict whose keys are tuples of tuples of whole numbers -/
mutual
def nkPlain : NestedKey → Bool
  | .num _ => true
  | .tup ks => nkPlainAll ks
  | .none => false
  | .text _ => false
def nkPlainAll : List NestedKey → Bool
  | [] => true
  | k :: ks => nkPlain k && nkPlainAll ks
end
mutual
/-- the hash of such a key: no text, so no World -/
def nkH : NestedKey → Int
  | .num i => hashInt i
  | .tup ks => reduceHash (Builtin.Tuple.tupleHashOf (nkHs ks))
  | .none => 0
  | .text _ => 0
def nkHs : List NestedKey → List Int
  | [] => []
  | k :: ks => nkH k :: nkHs ks
end
def nkRel (a : NestedKey × Addr × V) (b : NestedKey × Addr × Value) : Prop := a.1 = b.1 ∧ a.2.1 = b.2.1 ∧ RelV a.2.2 b.2.2
def NkE (kas : List (NestedKey × Addr × V)) (p : Addr) (h : Heap) : Prop :=
  ∃ (o : Obj) (es : Array DictEntry) (ep : Nat) (xs : List (NestedKey × Addr × Value)), h.get? p = some o ∧ o.ExactDict ∧ o.data = .dict es ep ∧ Paired nkRel kas xs ∧ es.toList = xs.map fun x => ⟨nkH x.1, .ref x.2.1, x.2.2⟩
def NkO (kas : List (NestedKey × Addr × V)) (p : Addr) : HO := .ext (NkE kas p)
def NkG (kas : List (NestedKey × Addr × V)) (p : Addr) : Prop := kas.length ≤ sizeLine ∧ (p == sysModules) = false ∧ (kas.map (·.1)).Nodup
/-! ### a value stands for data -/
mutual
inductive Rp (K : Fg) (H : Hp) : V → PyData → Prop
  | non : Rp K H .non .none
  | bl (b : Bool) : Rp K H (.bl b) (.bool b)
  | int (i : Int) : Rp K H (.int i) (.int i)
  | str (x : Str) : Rp K H (.str x) (.str x)
  | lst {a : Addr} {xs : List V} {ds : List PyData} : SqL K H a xs → RpAll K H xs ds → Rp K H (.ref a) (.list ds)
  | tup {a : Addr} {xs : List V} {ds : List PyData} : H a = some (.tup xs) → RpAll K H xs ds → Rp K H (.ref a) (.tuple ds)
  | dct {a : Addr} {ws : List (L2.Key × V)} {es : List (PyData × PyData)} : H a = some (.dK ws) → RpKv K H ws es → Rp K H (.ref a) (.dict es)
  | dctT {a : Addr} {od : Obj} {ws : List (List L2.Key × V)} {es : List (PyData × PyData)} : H a = some (.frz od (.dT ws)) → RpKt K H ws es → Rp K H (.ref a) (.dict (tagT :: es))
  | dctN {a : Addr} {od : Obj} {kas : List (NestedKey × Addr × V)} {es : List (PyData × PyData)} : H a = some (.frz od (NkO kas a)) → NkG kas a → RpKn K H kas es → Rp K H (.ref a) (.dict (tagN :: es))
  | dctF {a : Addr} {od : Obj} {ws : List (L2.Key × V)} {es : List (PyData × PyData)} : H a = some (.frz od (.dK ws)) → RpKv K H ws es → Rp K H (.ref a) (.dict (tagF :: es))
inductive RpAll (K : Fg) (H : Hp) : List V → List PyData → Prop
  | nil : RpAll K H [] []
  | cons {v : V} {vs : List V} {d : PyData} {ds : List PyData} : Rp K H v d → RpAll K H vs ds → RpAll K H (v :: vs) (d :: ds)
inductive RpKv (K : Fg) (H : Hp) : List (L2.Key × V) → List (PyData × PyData) → Prop
  | nil : RpKv K H [] []
  | cons {k : L2.Key} {v : V} {ws : List (L2.Key × V)} {d : PyData} {es : List (PyData × PyData)} : Rp K H v d → RpKv K H ws es → RpKv K H ((k, v) :: ws) ((kD k, d) :: es)
inductive RpKt (K : Fg) (H : Hp) : List (List L2.Key × V) → List (PyData × PyData) → Prop
  | nil : RpKt K H [] []
  | cons {k : List L2.Key} {v : V} {ws : List (List L2.Key × V)} {d : PyData} {es : List (PyData × PyData)} : Rp K H v d → RpKt K H ws es → RpKt K H ((k, v) :: ws) ((tupK k, d) :: es)
inductive RpKn (K : Fg) (H : Hp) : List (NestedKey × Addr × V) → List (PyData × PyData) → Prop
  | nil : RpKn K H [] []
  | cons {k : NestedKey} {b : Addr} {v : V} {kas : List (NestedKey × Addr × V)} {x d : PyData} {es : List (PyData × PyData)} : k.data = x → nkPlain k = true → k.depth ≤ 8 → Rp K H (.ref b) x → Rp K H v d → RpKn K H kas es → RpKn K H ((k, b, v) :: kas) ((x, d) :: es)
end
section
variable {K : Fg} {G H : Hp}
mutual
theorem Rp.mono (e : Same G H) : ∀ (d : PyData) (v : V), Rp K G v d → Rp K H v d
  | .none, _, h => by cases h; exact .non
  | .bool _, _, h => by cases h; exact .bl _
  | .int _, _, h => by cases h; exact .int _
  | .str _, _, h => by cases h; exact .str _
  | .list ds, _, h => by
    cases h with
    | lst hs ha => exact .lst (e.seq hs) (RpAll.mono e ds _ ha)
  | .tuple ds, _, h => by
    cases h with
    | tup hs ha => exact .tup (e _ _ hs) (RpAll.mono e ds _ ha)
  | .dict es, _, h => by
    cases h with
    | dct hs ha => exact .dct (e _ _ hs) (RpKv.mono e es _ ha)
    | dctT hs ha => exact .dctT (e _ _ hs) (RpKt.mono e _ _ ha)
    | dctN hs g ha => exact .dctN (e _ _ hs) g (RpKn.mono e _ _ ha)
    | dctF hs ha => exact .dctF (e _ _ hs) (RpKv.mono e _ _ ha)
theorem RpAll.mono (e : Same G H) : ∀ (ds : List PyData) (vs : List V), RpAll K G vs ds → RpAll K H vs ds
  | [], _, h => by cases h; exact .nil
  | d :: ds, _, h => by
    cases h with
    | cons h1 h2 => exact .cons (Rp.mono e d _ h1) (RpAll.mono e ds _ h2)
theorem RpKv.mono (e : Same G H) : ∀ (es : List (PyData × PyData)) (ws : List (L2.Key × V)), RpKv K G ws es → RpKv K H ws es
  | [], _, h => by cases h; exact .nil
  | (_, d) :: es, _, h => by
    cases h with
    | cons h1 h2 => exact .cons (Rp.mono e d _ h1) (RpKv.mono e es _ h2)
theorem RpKt.mono (e : Same G H) : ∀ (es : List (PyData × PyData)) (ws : List (List L2.Key × V)), RpKt K G ws es → RpKt K H ws es
  | [], _, h => by cases h; exact .nil
  | (_, d) :: es, _, h => by
    cases h with
    | cons h1 h2 => exact .cons (Rp.mono e d _ h1) (RpKt.mono e es _ h2)
theorem RpKn.mono (e : Same G H) : ∀ (es : List (PyData × PyData)) (ws : List (NestedKey × Addr × V)), RpKn K G ws es → RpKn K H ws es
  | [], _, h => by cases h; exact .nil
  | (x, d) :: es, _, h => by
    cases h with
    | cons q1 q2 q3 h0 h1 h2 => exact .cons q1 q2 q3 (Rp.mono e x _ h0) (Rp.mono e d _ h1) (RpKn.mono e es _ h2)
end
theorem RpAll.length : ∀ {vs : List V} {ds : List PyData}, RpAll K H vs ds → vs.length = ds.length
  | _, _, .nil => rfl
  | _, _, .cons _ t => congrArg (· + 1) t.length
theorem RpAll.get : ∀ {vs : List V} {ds : List PyData} {i : Nat} {d : PyData}, RpAll K H vs ds → ds[i]? = some d → ∃ v, vs[i]? = some v ∧ Rp K H v d
  | _, _, _, _, .nil, e => by simp at e
  | _, _, 0, _, .cons r _, e => by
    simp at e
    subst e
    exact ⟨_, rfl, r⟩
  | _, _, i + 1, d, .cons _ t, e => by
    obtain ⟨v, h1, h2⟩ := RpAll.get (i := i) (d := d) t (by simpa using e)
    exact ⟨v, by simpa using h1, h2⟩
theorem RpAll.append : ∀ {vs ws : List V} {ds es : List PyData}, RpAll K H vs ds → RpAll K H ws es → RpAll K H (vs ++ ws) (ds ++ es)
  | _, _, _, _, .nil, s => s
  | _, _, _, _, .cons r t, s => .cons r (t.append s)
theorem RpAll.set {v : V} {d : PyData} (r : Rp K H v d) : ∀ {vs : List V} {ds : List PyData} (i : Nat), RpAll K H vs ds → RpAll K H (vs.set i v) (ds.set i d)
  | _, _, _, .nil => .nil
  | _, _, 0, .cons _ t => .cons r t
  | _, _, i + 1, .cons q t => .cons q (RpAll.set r i t)
theorem RpAll.take : ∀ {vs : List V} {ds : List PyData} (n : Nat), RpAll K H vs ds → RpAll K H (vs.take n) (ds.take n)
  | _, _, 0, _ => .nil
  | _, _, _ + 1, .nil => .nil
  | _, _, n + 1, .cons r t => .cons r (t.take n)
theorem RpAll.drop : ∀ {vs : List V} {ds : List PyData} (n : Nat), RpAll K H vs ds → RpAll K H (vs.drop n) (ds.drop n)
  | _, _, 0, r => r
  | _, _, _ + 1, .nil => .nil
  | _, _, n + 1, .cons _ t => t.drop n
theorem RpAll.reverse : ∀ {vs : List V} {ds : List PyData}, RpAll K H vs ds → RpAll K H vs.reverse ds.reverse
  | _, _, .nil => .nil
  | _, _, .cons r t => by
    rw [List.reverse_cons, List.reverse_cons]
    exact t.reverse.append (.cons r .nil)
end
/-! ### cells, slots, states -/
/-- other objects that change, and what they hold: a dict whose keys are tuples of tuples -/
inductive GX where
  | n (kvs : List (NestedKey × D))
/-- what a mutable object holds; gone: it became data -/
inductive Cell where
  | l (ds : List D)
  | k (kvs : List (L2.Key × D))
  | t (kvs : List (List L2.Key × D))
  | r (ks : List (List L2.Key))
  | i (n j : Nat) (ds : List D)
  | g (x : GX)
  | gone
/-- an element of a list or a tuple that holds cells too -/
inductive El where
  | d (x : D)
  | c (k : Nat)
/-- a name's slot: without value (or forgotten), data, a cell -/
inductive Sl where
  | u
  | d (x : D)
  | c (n : Nat)
  | x (n : String)
  | f
  | f2
  | t (b : Bool) (es : List El)
structure S where
  v : List Sl
  m : List Cell
/-- a value: data, an object just made that nobody else holds, a cell -/
inductive Rv where
  | d (x : D)
  | new (c : Cell)
  | ref (n : Nat)
  | t (b : Bool) (es : List El)
inductive R (α : Type) where
  | ok (a : α) (s : S)
  | ex (e : String) (s : S)
  | bad
def R.bind {α β : Type} (r : R α) (k : α → S → R β) : R β :=
  match r with
  | .ok a s => k a s
  | .ex e s => .ex e s
  | .bad => .bad
def Res {α : Type} (P : α → S → Prop) (E : String → S → Prop) : R α → Prop
  | .ok a s => P a s
  | .ex e s => E e s
  | .bad => False
theorem Res.bind {α β : Type} {P : β → S → Prop} {E : String → S → Prop} {r : R α} {k : α → S → R β} (h : Res P E (r.bind k)) : Res (fun a s => Res P E (k a s)) E r := by
  cases r <;> exact h
theorem Res.mono {α : Type} {P P' : α → S → Prop} {E E' : String → S → Prop} {r : R α} (h : Res P E r) (hp : ∀ a s, P a s → P' a s) (he : ∀ e s, E e s → E' e s) : Res P' E' r := by
  cases r with
  | ok a s => exact hp a s h
  | ex e s => exact he e s h
  | bad => exact h
def KvAll (K : Fg) (G : Hp) {κ : Type} : List (κ × V) → List (κ × D) → Prop := Paired fun (p : κ × V) (q : κ × D) => p.1 = q.1 ∧ Rp K G p.2 q.2
def NkR (K : Fg) (G : Hp) (a : NestedKey × Addr × V) (q : NestedKey × D) : Prop := a.1 = q.1 ∧ nkPlain a.1 = true ∧ a.1.depth ≤ 8 ∧ Rp K G (.ref a.2.1) a.1.data ∧ Rp K G a.2.2 q.2
def GOk (K : Fg) (G : Hp) (p : Addr) (o : HO) : GX → Prop
  | .n kvs => ∃ kas, o = NkO kas p ∧ NkG kas p ∧ Paired (NkR K G) kas kvs
theorem GOk.mono {K : Fg} {G G' : Hp} {p : Addr} {o : HO} {x : GX} (e : Same G G') (h : GOk K G p o x) : GOk K G' p o x := by
  cases x with
  | n kvs =>
    obtain ⟨kas, h1, h2, h3⟩ := h
    exact ⟨kas, h1, h2, Paired.mapP h3 fun a q z => ⟨z.1, z.2.1, z.2.2.1, Rp.mono e _ _ z.2.2.2.1, Rp.mono e _ _ z.2.2.2.2⟩⟩
def COk (K : Fg) (G H : Hp) (p : Addr) : Cell → Prop
  | .l ds => G p = none ∧ ∃ vs, H p = some (.lst vs) ∧ RpAll K G vs ds
  | .k kvs => G p = none ∧ ∃ ws, H p = some (.dK ws) ∧ KvAll K G ws kvs
  | .t kvs => G p = none ∧ ∃ ws, H p = some (.dT ws) ∧ KvAll K G ws kvs
  | .r ks => G p = none ∧ ∃ ws : List (List L2.Key × V), H p = some (.dT ws) ∧ ws.map (·.1) = ks
  | .i _ _ ds => G p = none ∧ ∃ vs, H p = some (.lst vs) ∧ RpAll K G vs ds
  | .g x => G p = none ∧ ∃ o, H p = some o ∧ GOk K G p o x
  | .gone => ∃ o, G p = some o
/-- a tuple or a list that never changes, some elements data, some cells -/
def outB : Bool → List V → HO
  | true, vs => .tup vs
  | false, vs => .lst vs
def ElOk (K : Fg) (G : Hp) (r : List Addr) (v : V) : El → Prop
  | .d x => Rp K G v x
  | .c k => ∃ p, v = .ref p ∧ r[k]? = some p
def VtOk (K : Fg) (G : Hp) (r : List Addr) (x : V) (b : Bool) (es : List El) : Prop := ∃ a vs, x = .ref a ∧ G a = some (outB b vs) ∧ Paired (ElOk K G r) vs es
theorem VtOk.mono {K : Fg} {G G' : Hp} {r r' : List Addr} {x : V} {b : Bool} {es : List El} (g : Same G G') (hr : ∀ (k : Nat) (p : Addr), r[k]? = some p → r'[k]? = some p) (h : VtOk K G r x b es) : VtOk K G' r' x b es := by
  obtain ⟨a, vs, e, h1, h2⟩ := h
  refine ⟨a, vs, e, g _ _ h1, Paired.mapP h2 fun v el q => ?_⟩
  cases el with
  | d y => exact Rp.mono g _ _ q
  | c k =>
    obtain ⟨p, e1, e2⟩ := q
    exact ⟨p, e1, hr k p e2⟩
/-- the ground (what never changes), the cells' addresses, what others hold, the heap -/
structure Wd where
  G : Hp
  r : List Addr
  F : Addr → Prop
  H : Hp
def NoTb (o : HO) : Prop := ∀ ps, o ≠ .tbl ps
/-- the world went on: the ground grew, what is no cell stands as it stood, cells came -/
structure Le (w w' : Wd) : Prop where
  g : Same w.G w'.G
  k : ∀ a o, w.H a = some o → a ∉ w.r → ∃ o', w'.H a = some o' ∧ (NoTb o → o' = o)
  p : w.r <+: w'.r
  f : ∀ p, p ∈ w'.r → p ∈ w.r ∨ w.H p = none
  s : w'.F = w.F
theorem Le.kN {w w' : Wd} (a : Le w w') {p : Addr} {o : HO} (e : w.H p = some o) (n : p ∉ w.r) (h : NoTb o) : w'.H p = some o := by
  obtain ⟨o', e1, e2⟩ := a.k p o e n
  rw [e1, e2 h]
theorem Le.kX {w w' : Wd} (a : Le w w') {p : Addr} {o : HO} (e : w.H p = some o) (n : p ∉ w.r) : ∃ o', w'.H p = some o' := by
  obtain ⟨o', e1, _⟩ := a.k p o e n
  exact ⟨o', e1⟩
def NoTG (G : Hp) : Prop := ∀ b o, G b = some o → NoTb o
theorem noTG_upd {G : Hp} {p : Addr} {o : HO} (h : NoTG G) (n : NoTb o) : NoTG (upd G p o) := fun b u e => by
  by_cases hb : b = p
  · subst hb
    rw [upd_same] at e
    cases e
    exact n
  · rw [upd_ne hb] at e
    exact h b u e
theorem noTb_tup {vs : List V} : NoTb (.tup vs) := fun _ z => by cases z
theorem noTb_l {vs : List V} : NoTb (.lst vs) := fun _ z => by cases z
theorem noTb_k {vs : List (L2.Key × V)} : NoTb (.dK vs) := fun _ z => by cases z
theorem noTb_t {vs : List (List L2.Key × V)} : NoTb (.dT vs) := fun _ z => by cases z
theorem Le.refl (w : Wd) : Le w w := ⟨Same.refl _, fun _ _ e _ => ⟨_, e, fun _ => rfl⟩, List.prefix_refl _, fun _ h => .inl h, rfl⟩
theorem Le.trans {w w1 w2 : Wd} (a : Le w w1) (b : Le w1 w2) : Le w w2 where
  g := a.g.trans b.g
  k := fun c o e n => by
    obtain ⟨o1, e1, q1⟩ := a.k c o e n
    obtain ⟨o2, e2, q2⟩ := b.k c o1 e1 fun m => by
      rcases a.f c m with h | h
      · exact n h
      · rw [e] at h; cases h
    exact ⟨o2, e2, fun hn => by
      have := q1 hn
      subst this
      exact q2 hn⟩
  p := a.p.trans b.p
  f := fun c h => by
    rcases b.f c h with h1 | h1
    · exact a.f c h1
    · by_cases hm : c ∈ w.r
      · exact .inl hm
      · right
        cases q : w.H c with
        | none => rfl
        | some o =>
          obtain ⟨_, this, _⟩ := a.k c o q hm
          rw [h1] at this; cases this
  s := b.s.trans a.s
theorem Le.cell {w w' : Wd} (a : Le w w') {n : Nat} {p : Addr} (h : w.r[n]? = some p) : w'.r[n]? = some p := by
  obtain ⟨t, e⟩ := a.p
  rw [← e]
  rw [List.getElem?_append_left]
  · exact h
  · exact (List.getElem?_eq_some_iff.mp h).1
theorem Le.mem {w w' : Wd} (a : Le w w') {p : Addr} (h : p ∈ w.r) : p ∈ w'.r := by
  obtain ⟨t, e⟩ := a.p
  rw [← e]
  exact List.mem_append_left _ h
abbrev Wd.f (w : Wd) (F : Addr → Prop) : Wd := ⟨w.G, w.r, F, w.H⟩
theorem Le.ch {w w' : Wd} (a : Le w w') (F : Addr → Prop) : Le (w.f F) (w'.f F) := ⟨a.g, a.k, a.p, a.f, rfl⟩
/-- an object that stays, where no cell is -/
theorem Le.stays {w w' : Wd} (a : Le w w') {p : Addr} {o : HO} (n : p ∉ w.r) (e : w.H p = some o) (h : NoTb o) : p ∉ w'.r ∧ w'.H p = some o := by
  refine ⟨fun m => ?_, a.kN e n h⟩
  rcases a.f p m with z | z
  · exact n z
  · rw [e] at z
    cases z
/-- the world ahead of all -/
def bot : Wd := ⟨fun _ => none, [], fun _ => False, fun _ => none⟩
theorem Le.bot (w : Wd) : Le bot (w.f bot.F) := ⟨fun _ _ e => (nomatch (show (none : Option HO) = some _ from e)), fun _ _ e _ => (nomatch (show (none : Option HO) = some _ from e)), List.nil_prefix, fun _ _ => .inr rfl, rfl⟩
/-- exceptions by the names of their classes; the tables of code objects of the defs that hold lambdas -/
structure EC where
  f : String → Addr
  T : List (Addr × Str)
  X : List String
  w : Wd
  lf : Addr
  lf2 : Addr
instance : CoeFun EC fun _ => String → Addr := ⟨EC.f⟩
def TabOk (ec : EC) (F : Addr → Prop) (H : Hp) : Prop := ∀ q, q ∈ ec.T → F q.1 ∧ LamX.TabS H q.1 q.2
theorem TabOk.ext {ec : EC} {F : Addr → Prop} {H H' : Hp} (t : TabOk ec F H) (h : ∀ b o, H b = some o → H' b = some o) : TabOk ec F H' := fun q hq => ⟨(t q hq).1, (t q hq).2.ext h⟩
theorem TabOk.back {ec : EC} {F F' : Addr → Prop} {H H' : Hp} (t : TabOk ec F H) (t' : TabOk ec F' H') : TabOk ec F H' := fun q hq => ⟨(t q hq).1, (t' q hq).2⟩
theorem TabOk.f {ec : EC} {F F' : Addr → Prop} {H : Hp} (t : TabOk ec F H) (h : ∀ p, F p → F' p) : TabOk ec F' H := fun q hq => ⟨h _ (t q hq).1, (t q hq).2⟩
/-- an object that is no table and no code object is written -/
theorem TabOk.put {ec : EC} {F : Addr → Prop} {H : Hp} {p : Addr} {o o' : HO} (t : TabOk ec F H) (ho : H p = some o) (h1 : NoTb o) (h2 : ∀ a q, o ≠ LamX.CodeO a q) : TabOk ec F (upd H p o') := fun q hq => by
  obtain ⟨a, ps, e1, e2, e3⟩ := t q hq
  have n1 : q.1 ≠ p := fun z => by
    rw [z, ho] at e1
    exact h1 ps (Option.some.inj e1)
  refine ⟨a, ps, by rw [upd_ne n1]; exact e1, e2, fun pos cv hc => ?_⟩
  obtain ⟨c, e4, e5⟩ := e3 pos cv hc
  have n2 : c ≠ p := fun z => by
    rw [z, ho] at e5
    exact h2 _ _ (Option.some.inj e5)
  exact ⟨c, e4, by rw [upd_ne n2]; exact e5⟩
/-- the lists within a dict of lists stand where the dict says -/
def RfL (w : Wd) (m : List Cell) : Prop := ∀ (t : Nat) (q : Addr) (n j : Nat) (ds : List D), w.r[t]? = some q → m[t]? = some (.i n j ds) → n < t ∧ ∀ (p : Addr) (ks : List (List L2.Key)), w.r[n]? = some p → m[n]? = some (.r ks) → ∃ (ws : List (List L2.Key × V)) (k : List L2.Key), w.H p = some (.dT ws) ∧ ws[j]? = some (k, .ref q)
def NoTup (o : HO) : Prop := ∀ vs, o ≠ .tup vs
/-- what others hold is no tuple -/
def FT (ec : EC) (w : Wd) : Prop := ∀ p, w.F p → p ∈ ec.T.map (·.1) ∨ ∃ o, w.H p = some o ∧ NoTb o ∧ NoTup o
def NV (ec : EC) (w : Wd) (m : List Cell) : Prop := RfL w m ∧ FT ec w
structure Mem (ec : EC) (K : Fg) (w : Wd) (m : List Cell) : Prop where
  ext : Same w.G w.H
  len : w.r.length = m.length
  nd : w.r.Nodup
  cell : ∀ (n : Nat) (p : Addr) (c : Cell), w.r[n]? = some p → m[n]? = some c → COk K w.G w.H p c
  fo : ∀ p, w.F p → w.G p = none ∧ p ∉ w.r ∧ ∃ o, w.H p = some o
  tab : TabOk ec w.F w.H
  inv : Le ec.w (w.f ec.w.F)
  gt : NoTG w.G
  nv : NV ec w m
/-- a caught exception of the class at C -/
def ExO (a C : Addr) : HO := .ext fun h => ∃ oe, PySem.W.InstAt h a oe C none
theorem noTb_x {a C : Addr} : NoTb (ExO a C) := fun _ z => by
  unfold ExO at z
  cases z
/-- no code object and no caught exception -/
def NoX (o : HO) : Prop := (∀ a q, o ≠ LamX.CodeO a q) ∧ ∀ a C, o ≠ ExO a C
theorem noX_of {o : HO} (h : ∀ f, o ≠ .ext f) : NoX o := ⟨fun a q z => by
    unfold LamX.CodeO at z
    exact h _ z, fun a C z => by
    unfold ExO at z
    exact h _ z⟩
theorem relV_ex (v : V) : ∃ u, RelV v u := by
  cases v <;> first | exact ⟨_, rfl⟩ | exact ⟨_, ⟨0, rfl⟩⟩
theorem nkRel_ex : ∀ kas : List (NestedKey × Addr × V), ∃ xs : List (NestedKey × Addr × Value), Paired nkRel kas xs
  | [] => ⟨[], .nil⟩
  | (k, b, v) :: kas => by
    obtain ⟨u, hu⟩ := relV_ex v
    obtain ⟨xs, hx⟩ := nkRel_ex kas
    exact ⟨(k, b, u) :: xs, .cons ⟨rfl, rfl, hu⟩ hx⟩
theorem nkE_some (kas : List (NestedKey × Addr × V)) (p : Addr) : ∃ h : Heap, NkE kas p h ∧ ∀ a o, h.get? a = some o → o.cls = .type "dict" ∧ ∃ es ep, o.data = .dict es ep := by
  obtain ⟨xs, hx⟩ := nkRel_ex kas
  let es : Array DictEntry := (xs.map fun x => (⟨nkH x.1, .ref x.2.1, x.2.2⟩ : DictEntry)).toArray
  let o : Obj := { cls := .type "dict", data := .dict es 0 }
  let h : Heap := { objs := Array.replicate (p + 1) o }
  have he : ∀ a, h.get? a = if a < p + 1 then some o else none := fun a => by
    have e0 : (Array.replicate (p + 1) o)[a]? = if a < p + 1 then some o else none := Array.getElem?_replicate
    show (match (Array.replicate (p + 1) o)[a]? with
      | some ⟨_, _, .freed, _⟩ => none
      | o => o) = _
    rw [e0]
    by_cases ha : a < p + 1
    · rw [if_pos ha]
    · rw [if_neg ha]
  have hg : ∀ a (u : Obj), h.get? a = some u → u = o := fun a u e => by
    rw [he] at e
    split at e
    · exact (Option.some.inj e).symm
    · cases e
  refine ⟨h, ⟨o, es, 0, xs, ?_, ?_, rfl, hx, ?_⟩, fun a u e => ?_⟩
  · rw [he, if_pos (Nat.lt_succ_self p)]
  · exact ⟨rfl, rfl, rfl⟩
  · simp [es]
  · rw [hg a u e]
    exact ⟨rfl, _, _, rfl⟩
theorem GOk.noX {K : Fg} {G : Hp} {p : Addr} {o : HO} {x : GX} (h : GOk K G p o x) : NoX o := by
  cases x with
  | n kvs =>
    obtain ⟨kas, rfl, _⟩ := h
    obtain ⟨hh, h1, h2⟩ := nkE_some kas p
    refine ⟨fun a q z => ?_, fun a C z => ?_⟩
    · unfold NkO LamX.CodeO at z
      have z := HO.ext.inj z
      rw [z] at h1
      obtain ⟨oc, vs, t, e1, e2, _⟩ := h1
      obtain ⟨_, es, ep, e3⟩ := h2 _ _ e1
      rw [e2] at e3
      cases e3
    · unfold NkO ExO at z
      have z := HO.ext.inj z
      rw [z] at h1
      obtain ⟨oe, e1⟩ := h1
      obtain ⟨e3, _⟩ := h2 _ _ e1.1
      have e4 := e1.2
      rw [e3] at e4
      cases e4
theorem GOk.ntb {K : Fg} {G : Hp} {p : Addr} {o : HO} {x : GX} (h : GOk K G p o x) : NoTb o := by
  cases x with
  | n kvs =>
    obtain ⟨kas, rfl, _⟩ := h
    exact fun _ z => by unfold NkO at z; cases z
theorem GOk.ntup {K : Fg} {G : Hp} {p : Addr} {o : HO} {x : GX} (h : GOk K G p o x) : NoTup o := by
  cases x with
  | n kvs =>
    obtain ⟨kas, rfl, _⟩ := h
    exact fun _ z => by unfold NkO at z; cases z
def SlOk (ec : EC) (K : Fg) (w : Wd) (y : Option (Option V)) : Sl → Prop
  | .u => True
  | .d x => ∃ v, y = some (some v) ∧ Rp K w.G v x
  | .c n => ∃ p, y = some (some (.ref p)) ∧ w.r[n]? = some p
  | .x n => n ∈ ec.X ∧ ∃ a, y = some (some (.ref a)) ∧ a ∉ w.r ∧ w.H a = some (ExO a (ec.f n))
  | .f => y = some (some (.ref ec.lf))
  | .f2 => y = some (some (.ref ec.lf2))
  | .t b es => ∃ v, y = some (some v) ∧ VtOk K w.G w.r v b es
structure Rel (ec : EC) (K : Fg) (w : Wd) (σ : St) (s : S) : Prop where
  mem : Mem ec K w s.m
  len : σ.length = s.v.length
  slot : ∀ (i : Nat) (sl : Sl), s.v[i]? = some sl → SlOk ec K w σ[i]? sl
def RvOk (K : Fg) (w : Wd) (x : V) : Rv → Prop
  | .d d => Rp K w.G x d
  | .new c => ∃ p, x = .ref p ∧ (p ∉ w.r ∧ ¬ w.F p) ∧ COk K w.G w.H p c
  | .ref n => ∃ p, x = .ref p ∧ w.r[n]? = some p
  | .t b es => VtOk K w.G w.r x b es
theorem slOk_mono {ec : EC} {K : Fg} {w w' : Wd} (a : Le w w') {y : Option (Option V)} {sl : Sl} (h : SlOk ec K w y sl) : SlOk ec K w' y sl := by
  cases sl with
  | u => trivial
  | d x =>
    obtain ⟨v, e, r⟩ := h
    exact ⟨v, e, r.mono a.g⟩
  | c n =>
    obtain ⟨p, e, r⟩ := h
    exact ⟨p, e, a.cell r⟩
  | x n =>
    obtain ⟨q, b, e, r, z⟩ := h
    obtain ⟨r', z'⟩ := a.stays r z noTb_x
    exact ⟨q, b, e, r', z'⟩
  | f => exact h
  | f2 => exact h
  | t b es =>
    obtain ⟨v, e, z⟩ := h
    exact ⟨v, e, z.mono a.g fun k p q => a.cell q⟩
/-! ### the readings -/
/-- an object just made was not there ahead -/
def FrR (w : Wd) (x : V) (rv : Rv) : Prop := ∀ c, rv = .new c → ∀ p, x = .ref p → w.H p = none
theorem FrR.d {w : Wd} {x : V} {d : D} : FrR w x (.d d) := fun _ e => by cases e
theorem FrR.ref {w : Wd} {x : V} {n : Nat} : FrR w x (.ref n) := fun _ e => by cases e
theorem FrR.t {w : Wd} {x : V} {b : Bool} {es : List El} : FrR w x (.t b es) := fun _ e => by cases e
/-- fresh later is fresh earlier -/
theorem FrR.back {K : Fg} {w w1 w' : Wd} {x : V} {rv : Rv} (a : Le w w1) (b : Le w1 w') (hr : RvOk K w' x rv) (h : FrR w1 x rv) : FrR w x rv := fun c e p ex => by
  have h1 := h c e p ex
  subst e
  obtain ⟨q, eq, ⟨hq, _⟩, _⟩ := hr
  rw [ex] at eq
  cases eq
  cases hh : w.H p with
  | none => rfl
  | some o =>
    obtain ⟨_, this, _⟩ := a.k p o hh fun m => hq (b.mem (a.mem m))
    rw [h1] at this
    cases this
def okV (ec : EC) (K : Fg) (w : Wd) (σ : St) (Q : VK) : Rv → S → Prop := fun rv s' => ∀ x w', Le w w' → Rel ec K w' σ s' → RvOk K w' x rv → FrR w x rv → Q x w'.H
abbrev CE := S → R Rv
abbrev CT := S → R Bool
def rd (K : Fg) (ec : EC) (W : WX) (c : CE) : TE := fun σ H Q => ∃ w s, w.H = H ∧ Rel ec K w σ s ∧ Res (okV ec K w σ Q) (fun e s' => ∀ w', Le w w' → Rel ec K w' σ s' → W (.ref (ec e)) none σ w'.H) (c s)
def rdT (K : Fg) (ec : EC) (W : WX) (c : CT) : TT := fun σ H Q => ∃ w s, w.H = H ∧ Rel ec K w σ s ∧ Res (fun b s' => ∀ w', Le w w' → Rel ec K w' σ s' → Q b w'.H) (fun e s' => ∀ w', Le w w' → Rel ec K w' σ s' → W (.ref (ec e)) none σ w'.H) (c s)
/-- what is wanted of an exception out of an expression -/
abbrev okE (K : Fg) (ec : EC) (W : WX) (σ : St) (w : Wd) : String → S → Prop := fun e s' => ∀ w', Le w w' → Rel ec K w' σ s' → W (.ref (ec e)) none σ w'.H
/-! ### weakening -/
theorem _root_.L2.PE.imp {X : Cx} {e : Expr} {t t' : TE} (h : PE X e t) (i : ∀ σ H Q, t' σ H Q → t σ H Q) : PE X e t' := ⟨fun pins s σ H Q I q => h.run pins s σ H Q I (i _ _ _ q)⟩
theorem _root_.L2.PT.imp {X : Cx} {e : Expr} {t t' : TT} (h : PT X e t) (i : ∀ σ H Q, t' σ H Q → t σ H Q) : PT X e t' := ⟨fun pins s σ H Q I q => h.run pins s σ H Q I (i _ _ _ q)⟩
theorem _root_.L2.PS.imp {X : Cx} {e : Stmt} {t t' : TS} (h : PS X e t) (i : ∀ D σ H, t' D σ H → t D σ H) : PS X e t' := ⟨fun pins s σ H D I q => h.run pins s σ H D I (i _ _ _ q)⟩
theorem _root_.L2.PSs.imp {X : Cx} {e : List Stmt} {t t' : TS} (h : PSs X e t) (i : ∀ D σ H, t' D σ H → t D σ H) : PSs X e t' := ⟨fun pins s σ H D I q => h.run pins s σ H D I (i _ _ _ q)⟩
/-! ### an object just made becomes data -/
def Cell.D? : Cell → Option D
  | .l ds => some (.list ds)
  | .k kvs => some (.dict (kvs.map fun p => (kD p.1, p.2)))
  | _ => none
theorem rpKv_of {K : Fg} {G : Hp} : ∀ {ws : List (L2.Key × V)} {kvs : List (L2.Key × D)}, KvAll K G ws kvs → RpKv K G ws (kvs.map fun p => (kD p.1, p.2))
  | _, _, .nil => .nil
  | (k, v) :: ws, (k', d) :: kvs, .cons r t => by
    obtain ⟨e, r⟩ := r
    have e : k = k' := e
    subst e
    exact .cons r (rpKv_of t)
theorem cOk_mono {K : Fg} {G G' H H' : Hp} {p : Addr} {c : Cell} (g : Same G G') (hp : c ≠ .gone → G' p = none) (h : ∀ o, c ≠ .gone → H p = some o → H' p = some o) (r : COk K G H p c) : COk K G' H' p c := by
  cases c with
  | l ds =>
    obtain ⟨_, vs, e, q⟩ := r
    exact ⟨hp (by intro z; cases z), vs, h _ (by intro z; cases z) e, q.mono g⟩
  | k kvs =>
    obtain ⟨_, vs, e, q⟩ := r
    exact ⟨hp (by intro z; cases z), vs, h _ (by intro z; cases z) e, Paired.mapP q fun a b z => ⟨z.1, z.2.mono g⟩⟩
  | t kvs =>
    obtain ⟨_, vs, e, q⟩ := r
    exact ⟨hp (by intro z; cases z), vs, h _ (by intro z; cases z) e, Paired.mapP q fun a b z => ⟨z.1, z.2.mono g⟩⟩
  | r ks =>
    obtain ⟨_, vs, e, q⟩ := r
    exact ⟨hp (by intro z; cases z), vs, h _ (by intro z; cases z) e, q⟩
  | i n j ds =>
    obtain ⟨_, vs, e, q⟩ := r
    exact ⟨hp (by intro z; cases z), vs, h _ (by intro z; cases z) e, q.mono g⟩
  | g x =>
    obtain ⟨_, o, e, q⟩ := r
    exact ⟨hp (by intro z; cases z), o, h _ (by intro z; cases z) e, q.mono g⟩
  | gone =>
    obtain ⟨o, e⟩ := r
    exact ⟨o, g _ _ e⟩
/-- the ground takes p in -/
theorem ground_in {ec : EC} {K : Fg} {w : Wd} {σ : St} {s : S} {p : Addr} {o : HO} (r : Rel ec K w σ s) (hp : p ∉ w.r ∧ ¬ w.F p) (hg : w.G p = none) (hh : w.H p = some o) (nb : NoTb o) :
    Rel ec K ⟨upd w.G p o, w.r, w.F, w.H⟩ σ s ∧ Le w ⟨upd w.G p o, w.r, w.F, w.H⟩ := by
  have sg : Same w.G (upd w.G p o) := fun b u e => by
    rw [upd_ne (ne_of_none e hg)]
    exact e
  have le : Le w ⟨upd w.G p o, w.r, w.F, w.H⟩ := ⟨sg, fun _ _ e _ => ⟨_, e, fun _ => rfl⟩, List.prefix_refl _, fun _ h => .inl h, rfl⟩
  refine ⟨⟨⟨fun b u e => ?_, r.mem.len, r.mem.nd, fun n q c h1 h2 => ?_, fun q hq => ?_, r.mem.tab, r.mem.inv.trans (le.ch _), noTG_upd r.mem.gt nb, r.mem.nv⟩, r.len, fun i sl h => slOk_mono le (r.slot i sl h)⟩, le⟩
  · by_cases hb : b = p
    · subst hb
      have e : upd w.G b o b = some u := e
      rw [upd_same] at e
      cases e
      exact hh
    · have e : upd w.G p o b = some u := e
      rw [upd_ne hb] at e
      exact r.mem.ext b u e
  · have hq : q ≠ p := fun z => hp.1 (z ▸ List.mem_of_getElem? h1)
    have c0 := r.mem.cell n q c h1 h2
    refine cOk_mono sg (fun hc => ?_) (fun _ _ e => e) c0
    show upd w.G p o q = none
    rw [upd_ne hq]
    cases c with
    | l ds => exact c0.1
    | k kvs => exact c0.1
    | t kvs => exact c0.1
    | r ks => exact c0.1
    | i n j ds => exact c0.1
    | g x => exact c0.1
    | gone => exact absurd rfl hc
  · obtain ⟨h1, h2⟩ := r.mem.fo q hq
    refine ⟨?_, h2⟩
    show upd w.G p o q = none
    have hne : q ≠ p := by
      intro z
      subst z
      exact hp.2 hq
    rw [upd_ne hne]
    exact h1
def Rv.D? : Rv → Option D
  | .d x => some x
  | .new c => c.D?
  | .ref _ => none
  | .t _ _ => none
theorem freeze {ec : EC} {K : Fg} {w : Wd} {σ : St} {s : S} {x : V} {rv : Rv} {d : D} (r : Rel ec K w σ s) (h : RvOk K w x rv) (e : rv.D? = some d) :
    ∃ G', Rel ec K ⟨G', w.r, w.F, w.H⟩ σ s ∧ Le w ⟨G', w.r, w.F, w.H⟩ ∧ Rp K G' x d := by
  cases rv with
  | d y =>
    cases e
    exact ⟨w.G, r, Le.refl w, h⟩
  | ref n => cases e
  | t b es => cases e
  | new c =>
    obtain ⟨p, rfl, hp, hc⟩ := h
    cases c with
    | l ds =>
      cases e
      obtain ⟨hg, vs, hv, ra⟩ := hc
      obtain ⟨r', le⟩ := ground_in r hp hg hv noTb_l
      exact ⟨_, r', le, .lst (SqL.of upd_same) (ra.mono le.g)⟩
    | k kvs =>
      cases e
      obtain ⟨hg, vs, hv, ra⟩ := hc
      obtain ⟨r', le⟩ := ground_in r hp hg hv noTb_k
      exact ⟨_, r', le, .dct upd_same ((rpKv_of ra).mono le.g)⟩
    | t kvs => cases e
    | r ks => cases e
    | i n j ds => cases e
    | g x => cases e
    | gone => cases e
end Vm
namespace Vm
open PySem L2
/-! ### operands -/
/-- what an operand is when the operation comes: data (a cell's list too), or a cell's dict -/
inductive Od where
  | d (x : D)
  | c (c : Cell)
def Rv.od (m : List Cell) : Rv → Option Od
  | .d x => some (.d x)
  | .new _ => none
  | .t _ _ => none
  | .ref n => match m[n]? with
    | some (.l ds) => some (.d (.list ds))
    | some (.k kvs) => some (.c (.k kvs))
    | some (.t kvs) => some (.c (.t kvs))
    | some (.r ks) => some (.c (.r ks))
    | some (.g x) => some (.c (.g x))
    | _ => none
def OdOk (K : Fg) (w : Wd) (x : V) : Od → Prop
  | .d d => Rp K w.G x d ∨ ∃ p vs ds, x = .ref p ∧ d = .list ds ∧ w.H p = some (.lst vs) ∧ RpAll K w.G vs ds
  | .c c => ∃ p, x = .ref p ∧ COk K w.G w.H p c ∧ p ∈ w.r
/-- an expression's value, an object just made become data -/
def cv (c : CE) : CE := fun s => (c s).bind fun rv s1 => match rv with
  | .new c => match c.D? with
    | some d => .ok (.d d) s1
    | none => .bad
  | rv => .ok rv s1
def opt {α β : Type} (o : Option α) (k : α → R β) : R β := match o with
  | some a => k a
  | none => .bad
def cOp1 (f : Od → Option Rv) (a : CE) : CE := fun s => (cv a s).bind fun x s1 => opt (x.od s1.m) fun o => opt (f o) fun rv => .ok rv s1
def cOp2 (f : Od → Od → Option Rv) (a b : CE) : CE := fun s => (cv a s).bind fun x s1 => (cv b s1).bind fun y s2 => opt (x.od s2.m) fun o => opt (y.od s2.m) fun o' => opt (f o o') fun rv => .ok rv s2
theorem Res.opt {α β : Type} {P : β → S → Prop} {E : String → S → Prop} {o : Option α} {k : α → R β} (h : Res P E (opt o k)) : ∃ a, o = some a ∧ Res P E (k a) := by
  cases o with
  | none => exact h.elim
  | some a => exact ⟨a, rfl, h⟩
section
variable {K : Fg} {ec : EC} {W : WX} {σ : St} {w w1 : Wd} {Q : VK} {s : S}
/-- what is wanted of a run from w on -/
abbrev FinV (K : Fg) (ec : EC) (W : WX) (σ : St) (Q : VK) (w : Wd) (r : R Rv) : Prop := Res (okV ec K w σ Q) (okE K ec W σ w) r
abbrev FinT (K : Fg) (ec : EC) (W : WX) (σ : St) (Q : Bool → Hp → Prop) (w : Wd) (r : R Bool) : Prop := Res (fun b s' => ∀ w', Le w w' → Rel ec K w' σ s' → Q b w'.H) (okE K ec W σ w) r
theorem okE_le (a : Le w w1) {e : String} {s' : S} (h : okE K ec W σ w e s') : okE K ec W σ w1 e s' := fun w' b r => h w' (a.trans b) r
theorem FinV.le {r : R Rv} (a : Le w w1) (h : FinV K ec W σ Q w r) : FinV K ec W σ Q w1 r := Res.mono h (fun rv s' q x w' b r o f => q x w' (a.trans b) r o (f.back a b o)) fun e s' q => okE_le a q
theorem FinT.le {Q : Bool → Hp → Prop} {r : R Bool} (a : Le w w1) (h : FinT K ec W σ Q w r) : FinT K ec W σ Q w1 r := Res.mono h (fun rv s' q w' b => q w' (a.trans b)) fun e s' q => okE_le a q
/-- an argument runs, then the rest -/
theorem run_cv {α : Type} {c : CE} {k : Rv → S → R α} {P : α → S → Prop} (hr : Rel ec K w σ s) (h : Res P (okE K ec W σ w) ((cv c s).bind k))
    (hk : ∀ x w1 s1 a, Le w w1 → Rel ec K w1 σ s1 → RvOk K w1 x a → (∀ c, a ≠ .new c) → Res P (okE K ec W σ w) (k a s1) → Q x w1.H) : rd K ec W c σ w.H Q := by
  refine ⟨w, s, rfl, hr, ?_⟩
  unfold cv at h
  cases e : c s with
  | bad =>
    rw [e] at h
    exact h
  | ex n s' =>
    rw [e] at h
    exact h
  | ok rv s' =>
    rw [e] at h
    intro x w' le r' ok _
    cases rv with
    | d y => exact hk x w' s' (.d y) le r' ok (by intro c z; cases z) h
    | ref n => exact hk x w' s' (.ref n) le r' ok (by intro c z; cases z) h
    | t b es => exact hk x w' s' (.t b es) le r' ok (by intro c z; cases z) h
    | new cc =>
      cases ed : cc.D? with
      | none =>
        simp only [R.bind, ed] at h
        exact h.elim
      | some d =>
        simp only [R.bind, ed] at h
        obtain ⟨G', r2, le2, rp⟩ := freeze r' ok (d := d) ed
        exact hk x ⟨G', w'.r, w'.F, w'.H⟩ s' (.d d) (le.trans le2) r2 rp (by intro c z; cases z) h
theorem RvOk.le {x : V} {a : Rv} (hn : ∀ c, a ≠ .new c) (le : Le w w1) (h : RvOk K w x a) : RvOk K w1 x a := by
  cases a with
  | d y => exact Rp.mono le.g _ _ h
  | ref n =>
    obtain ⟨p, e, q⟩ := h
    exact ⟨p, e, le.cell q⟩
  | t b es => exact h.mono le.g fun k p q => le.cell q
  | new c => exact absurd rfl (hn c)
theorem od_of {x : V} {a : Rv} {o : Od} (hr : Rel ec K w σ s) (h : RvOk K w x a) (e : a.od s.m = some o) : OdOk K w x o := by
  cases a with
  | d y =>
    cases e
    exact .inl h
  | new c => cases e
  | t b es => cases e
  | ref n =>
    obtain ⟨p, rfl, q⟩ := h
    unfold Rv.od at e
    dsimp only at e
    split at e
    · rename_i ds hc
      cases e
      obtain ⟨hg, vs, hv, ra⟩ := hr.mem.cell n p _ q hc
      exact .inr ⟨p, vs, ds, rfl, rfl, hv, ra⟩
    · rename_i kvs hc
      cases e
      exact ⟨p, rfl, hr.mem.cell n p _ q hc, List.mem_of_getElem? q⟩
    · rename_i kvs hc
      cases e
      exact ⟨p, rfl, hr.mem.cell n p _ q hc, List.mem_of_getElem? q⟩
    · rename_i kvs hc
      cases e
      exact ⟨p, rfl, hr.mem.cell n p _ q hc, List.mem_of_getElem? q⟩
    · rename_i x hc
      cases e
      exact ⟨p, rfl, hr.mem.cell n p _ q hc, List.mem_of_getElem? q⟩
    · cases e
/-! ### what an operation leaves -/
/-- the world grew by new objects alone -/
structure Gr (w w' : Wd) : Prop where
  r : w'.r = w.r
  f : w'.F = w.F
  g : Same w.G w'.G
  h : Same w.H w'.H
  e : Same w.G w.H → Same w'.G w'.H
  n : ∀ p o, w.H p = some o → NoTup o → w.G p = none → w'.G p = none
  t : NoTG w.G → NoTG w'.G
theorem Gr.refl (w : Wd) : Gr w w := ⟨rfl, rfl, Same.refl _, Same.refl _, fun h => h, fun _ _ _ _ h => h, fun h => h⟩
theorem Rel.live (r : Rel ec K w σ s) {p : Addr} (h : p ∈ w.r) : ∃ o, w.H p = some o := by
  obtain ⟨n, e⟩ := List.getElem?_of_mem h
  have hn : n < s.m.length := by
    rw [← r.mem.len]
    exact (List.getElem?_eq_some_iff.mp e).1
  have c := r.mem.cell n p _ e (List.getElem?_eq_getElem hn)
  cases q : s.m[n] with
  | l ds =>
    rw [q] at c
    obtain ⟨_, vs, hv, _⟩ := c
    exact ⟨_, hv⟩
  | k ds =>
    rw [q] at c
    obtain ⟨_, vs, hv, _⟩ := c
    exact ⟨_, hv⟩
  | t ds =>
    rw [q] at c
    obtain ⟨_, vs, hv, _⟩ := c
    exact ⟨_, hv⟩
  | r ds =>
    rw [q] at c
    obtain ⟨_, vs, hv, _⟩ := c
    exact ⟨_, hv⟩
  | i n' j' ds =>
    rw [q] at c
    obtain ⟨_, vs, hv, _⟩ := c
    exact ⟨_, hv⟩
  | g x =>
    rw [q] at c
    obtain ⟨_, o, hv, _⟩ := c
    exact ⟨_, hv⟩
  | gone =>
    rw [q] at c
    obtain ⟨o, e⟩ := c
    exact ⟨o, r.mem.ext _ _ e⟩
theorem Rel.liveN (r : Rel ec K w σ s) {n : Nat} {p : Addr} (e : w.r[n]? = some p) (hg : w.G p = none) : ∃ o, w.H p = some o ∧ NoTb o ∧ NoX o := by
  have hn : n < s.m.length := by
    rw [← r.mem.len]
    exact (List.getElem?_eq_some_iff.mp e).1
  have c := r.mem.cell n p _ e (List.getElem?_eq_getElem hn)
  cases q : s.m[n] with
  | l ds =>
    rw [q] at c
    obtain ⟨_, vs, hv, _⟩ := c
    exact ⟨_, hv, noTb_l, noX_of fun f z => by cases z⟩
  | k ds =>
    rw [q] at c
    obtain ⟨_, vs, hv, _⟩ := c
    exact ⟨_, hv, noTb_k, noX_of fun f z => by cases z⟩
  | t ds =>
    rw [q] at c
    obtain ⟨_, vs, hv, _⟩ := c
    exact ⟨_, hv, noTb_t, noX_of fun f z => by cases z⟩
  | r ds =>
    rw [q] at c
    obtain ⟨_, vs, hv, _⟩ := c
    exact ⟨_, hv, noTb_t, noX_of fun f z => by cases z⟩
  | i n' j' ds =>
    rw [q] at c
    obtain ⟨_, vs, hv, _⟩ := c
    exact ⟨_, hv, noTb_l, noX_of fun f z => by cases z⟩
  | g x =>
    rw [q] at c
    obtain ⟨_, o, hv, q1⟩ := c
    exact ⟨_, hv, q1.ntb, q1.noX⟩
  | gone =>
    rw [q] at c
    obtain ⟨o, e⟩ := c
    rw [hg] at e
    cases e
theorem Rel.liveT (r : Rel ec K w σ s) {n : Nat} {p : Addr} (e : w.r[n]? = some p) (hg : w.G p = none) : ∃ o, w.H p = some o ∧ NoTb o ∧ NoTup o := by
  have hn : n < s.m.length := by
    rw [← r.mem.len]
    exact (List.getElem?_eq_some_iff.mp e).1
  have c := r.mem.cell n p _ e (List.getElem?_eq_getElem hn)
  cases q : s.m[n] with
  | gone =>
    rw [q] at c
    obtain ⟨o, e⟩ := c
    rw [hg] at e
    cases e
  | l ds =>
    rw [q] at c
    obtain ⟨_, vs, hv, _⟩ := c
    exact ⟨_, hv, noTb_l, fun f z => by cases z⟩
  | k ds =>
    rw [q] at c
    obtain ⟨_, vs, hv, _⟩ := c
    exact ⟨_, hv, noTb_k, fun f z => by cases z⟩
  | t ds =>
    rw [q] at c
    obtain ⟨_, vs, hv, _⟩ := c
    exact ⟨_, hv, noTb_t, fun f z => by cases z⟩
  | r ds =>
    rw [q] at c
    obtain ⟨_, vs, hv, _⟩ := c
    exact ⟨_, hv, noTb_t, fun f z => by cases z⟩
  | i n' j' ds =>
    rw [q] at c
    obtain ⟨_, vs, hv, _⟩ := c
    exact ⟨_, hv, noTb_l, fun f z => by cases z⟩
  | g x =>
    rw [q] at c
    obtain ⟨_, o, hv, q1⟩ := c
    exact ⟨_, hv, q1.ntb, q1.ntup⟩
theorem nv_grow {m : List Cell} (a : Gr w w1) (h : NV ec w m) : NV ec w1 m := by
  refine ⟨fun t q n j ds e1 e2 => ?_, fun p hp => ?_⟩
  · rw [a.r] at e1
    obtain ⟨h1, h2⟩ := h.1 t q n j ds e1 e2
    refine ⟨h1, fun p ks e3 e4 => ?_⟩
    rw [a.r] at e3
    obtain ⟨ws, k, e5, e6⟩ := h2 p ks e3 e4
    exact ⟨ws, k, a.h _ _ e5, e6⟩
  · rw [a.f] at hp
    rcases h.2 p hp with z | ⟨o, e, z⟩
    · exact .inl z
    · exact .inr ⟨o, a.h _ _ e, z⟩
theorem Gr.le (a : Gr w w1) : Le w w1 := ⟨a.g, fun _ _ e _ => ⟨_, a.h _ _ e, fun _ => rfl⟩, by rw [a.r]; exact List.prefix_refl _, fun _ h => .inl (a.r ▸ h), a.f⟩
theorem Rel.grow (r : Rel ec K w σ s) (a : Gr w w1) : Rel ec K w1 σ s := by
  refine ⟨⟨a.e r.mem.ext, by rw [a.r]; exact r.mem.len, by rw [a.r]; exact r.mem.nd, fun n p c h1 h2 => ?_, fun p hp => ?_, by rw [a.f]; exact r.mem.tab.ext a.h, r.mem.inv.trans (a.le.ch _), a.t r.mem.gt, nv_grow a r.mem.nv⟩, r.len, fun i sl h => slOk_mono a.le (r.slot i sl h)⟩
  rotate_left
  · rw [a.f] at hp
    obtain ⟨h1, h2, o, ho⟩ := r.mem.fo p hp
    have nt : NoTup o := by
      rcases r.mem.nv.2 p hp with z | ⟨o', e, _, z⟩
      · obtain ⟨q, hq, e⟩ := List.mem_map.mp z
        obtain ⟨ps, e1, _⟩ := (r.mem.tab q hq).2
        rw [e, ho] at e1
        intro vs z
        rw [z] at e1
        cases e1
      · rw [ho] at e
        cases e
        exact z
    exact ⟨a.n p o ho nt h1, by rw [a.r]; exact h2, o, a.h _ _ ho⟩
  rw [a.r] at h1
  have c0 := r.mem.cell n p c h1 h2
  refine cOk_mono a.g (fun hc => ?_) (fun o _ e => a.h _ _ e) c0
  have hg : w.G p = none := by
    cases c with
    | l ds => exact c0.1
    | k kvs => exact c0.1
    | t kvs => exact c0.1
    | r ks => exact c0.1
    | i n j ds => exact c0.1
    | g x => exact c0.1
    | gone => exact absurd rfl hc
  obtain ⟨o, ho, _, nt⟩ := r.liveT h1 hg
  exact a.n p o ho nt hg
def RvN (K : Fg) (w w' : Wd) (z : V) : Rv → Prop
  | .d d => Rp K w'.G z d
  | .new c => ∃ p, z = .ref p ∧ w.H p = none ∧ COk K w'.G w'.H p c
  | .ref _ => False
  | .t _ _ => False
def Post (K : Fg) (w : Wd) (rv : Rv) (Q : VK) : Prop := ∀ z w', Gr w w' → RvN K w w' z rv → Q z w'.H
theorem post_of {rv : Rv} (hr : Rel ec K w σ s) (h : okV ec K w σ Q rv s) : Post K w rv Q := fun z w' g n => by
  refine h z w' g.le (hr.grow g) ?_ fun c ec p ez => ?_
  rotate_left
  · subst ec
    obtain ⟨p', e, hp, hc⟩ := n
    rw [ez] at e
    cases e
    exact hp
  cases rv with
  | d d => exact n
  | ref _ => exact n.elim
  | t _ _ => exact n.elim
  | new c =>
    obtain ⟨p, e, hp, hc⟩ := n
    refine ⟨p, e, ⟨fun hm => ?_, fun hm => ?_⟩, hc⟩
    · rw [g.r] at hm
      obtain ⟨o, ho⟩ := hr.live hm
      rw [hp] at ho
      cases ho
    · rw [g.f] at hm
      obtain ⟨_, _, o, ho⟩ := hr.mem.fo p hm
      rw [hp] at ho
      cases ho
theorem post_d {d : D} {z : V} (h : Post K w (.d d) Q) (r : Rp K w.G z d) : Q z w.H := h z w (Gr.refl w) r
theorem post_int {i : Int} (h : Post K w (.d (.int i)) Q) : Q (.int i) w.H := post_d h (.int i)
theorem post_bool {i : Bool} (h : Post K w (.d (.bool i)) Q) : Q (.bl i) w.H := post_d h (.bl i)
theorem post_str {i : Str} (h : Post K w (.d (.str i)) Q) : Q (.str i) w.H := post_d h (.str i)
theorem same_upd {H : Hp} {p : Addr} {o : HO} (h : H p = none) : Same H (upd H p o) := fun b x e => by
  rw [upd_ne (ne_of_none e h)]
  exact e
theorem same_upd2 {G H : Hp} {p : Addr} {o : HO} (h : Same G H) : Same (upd G p o) (upd H p o) := fun b x e => by
  by_cases hb : b = p
  · subst hb
    rw [upd_same] at e ⊢
    exact e
  · rw [upd_ne hb] at e ⊢
    exact h b x e
theorem post_tup {ds : List D} {vs : List V} {p : Addr} (h : Post K w (.d (.tuple ds)) Q) (r : RpAll K w.G vs ds) (hp : w.H p = none) (hx : Same w.G w.H) : Q (.ref p) (upd w.H p (.tup vs)) := by
  have hg : w.G p = none := hx.free hp
  exact h (.ref p) ⟨upd w.G p (.tup vs), w.r, w.F, upd w.H p (.tup vs)⟩ ⟨rfl, rfl, same_upd hg, same_upd hp, fun e => same_upd2 e, fun q o e _ n => by
    show upd w.G p (.tup vs) q = none
    rw [upd_ne (ne_of_none e hp)]
    exact n, fun h => noTG_upd h noTb_tup⟩ (.tup upd_same (r.mono (same_upd hg)))
theorem gr_new {p : Addr} {o : HO} (hp : w.H p = none) : Gr w ⟨w.G, w.r, w.F, upd w.H p o⟩ := ⟨rfl, rfl, Same.refl _, same_upd hp, fun e => e.trans (same_upd hp), fun _ _ _ _ n => n, fun h => h⟩
theorem post_lst {ds : List D} {vs : List V} {p : Addr} (h : Post K w (.new (.l ds)) Q) (r : RpAll K w.G vs ds) (hp : w.H p = none) (hx : Same w.G w.H) : Q (.ref p) (upd w.H p (.lst vs)) :=
  h (.ref p) ⟨w.G, w.r, w.F, upd w.H p (.lst vs)⟩ (gr_new hp) ⟨p, rfl, hp, hx.free hp, vs, upd_same, r⟩
/-- an operation on values does what the function on data says -/
def Op1S (K : Fg) (r : V → Hp → VK → Prop) (f : Od → Option Rv) : Prop := ∀ (w : Wd) (x : V) (o : Od) (rv : Rv) (Q : VK), Same w.G w.H → OdOk K w x o → f o = some rv → Post K w rv Q → r x w.H Q
def Op2S (K : Fg) (r : R2) (f : Od → Od → Option Rv) : Prop := ∀ (w : Wd) (x y : V) (o o' : Od) (rv : Rv) (Q : VK), Same w.G w.H → OdOk K w x o → OdOk K w y o' → f o o' = some rv → Post K w rv Q → r x y w.H Q
theorem op1 {r : V → Hp → VK → Prop} {f : Od → Option Rv} (hs : Op1S K r f) {c : CE} {H : Hp} (h : rd K ec W (cOp1 f c) σ H Q) : rd K ec W c σ H fun x H1 => r x H1 Q := by
  obtain ⟨w, s, rfl, hr, h⟩ := h
  refine run_cv hr h fun x w1 s1 a le1 hr1 ha hn h1 => ?_
  obtain ⟨o, e1, h2⟩ := h1.opt
  obtain ⟨rv, e2, h3⟩ := h2.opt
  exact hs w1 x o rv Q hr1.mem.ext (od_of hr1 ha e1) e2 (post_of hr1 fun z w' le r' o f => h3 z w' (le1.trans le) r' o (f.back le1 le o))
theorem op2 {r : R2} {f : Od → Od → Option Rv} (hs : Op2S K r f) {ca cb : CE} {H : Hp} (h : rd K ec W (cOp2 f ca cb) σ H Q) : rd K ec W ca σ H fun x H1 => rd K ec W cb σ H1 fun y H2 => r x y H2 Q := by
  obtain ⟨w, s, rfl, hr, h⟩ := h
  refine run_cv hr h fun x w1 s1 a le1 hr1 ha hn h1 => ?_
  refine run_cv hr1 (Res.mono h1 (fun _ _ q => q) fun _ _ q => okE_le le1 q) fun y w2 s2 b le2 hr2 hb hn2 h2 => ?_
  obtain ⟨o, e1, h2⟩ := h2.opt
  obtain ⟨o', e2, h2⟩ := h2.opt
  obtain ⟨rv, e3, h3⟩ := h2.opt
  exact hs w2 x y o o' rv Q hr2.mem.ext (od_of hr2 (ha.le hn le2) e1) (od_of hr2 hb e2) e3 (post_of hr2 fun z w' le r' o f => h3 z w' ((le1.trans le2).trans le) r' o (f.back (le1.trans le2) le o))
/-! ### what operands are -/
theorem OdOk.rp {x : V} {d : D} (hx : Same w.G w.H) (h : OdOk K w x (.d d)) : Rp K w.H x d := by
  rcases h with h | ⟨p, vs, ds, rfl, rfl, hv, ra⟩
  · exact h.mono hx
  · exact .lst (SqL.of hv) (ra.mono hx)
theorem OdOk.int {x : V} {i : Int} (h : OdOk K w x (.d (.int i))) : x = .int i := by
  rcases h with h | ⟨p, vs, ds, rfl, e, _⟩
  · cases h
    rfl
  · cases e
theorem OdOk.bool {x : V} {i : Bool} (h : OdOk K w x (.d (.bool i))) : x = .bl i := by
  rcases h with h | ⟨p, vs, ds, rfl, e, _⟩
  · cases h
    rfl
  · cases e
theorem OdOk.str {x : V} {i : Str} (h : OdOk K w x (.d (.str i))) : x = .str i := by
  rcases h with h | ⟨p, vs, ds, rfl, e, _⟩
  · cases h
    rfl
  · cases e
theorem OdOk.none {x : V} (h : OdOk K w x (.d .none)) : x = .non := by
  rcases h with h | ⟨p, vs, ds, rfl, e, _⟩
  · cases h
    rfl
  · cases e
theorem OdOk.tup {x : V} {ds : List D} (h : OdOk K w x (.d (.tuple ds))) : ∃ p vs, x = .ref p ∧ w.G p = some (.tup vs) ∧ RpAll K w.G vs ds := by
  rcases h with h | ⟨p, vs, ds, rfl, e, _⟩
  · cases h with
    | tup a b => exact ⟨_, _, rfl, a, b⟩
  · cases e
theorem OdOk.list {x : V} {ds : List D} (hx : Same w.G w.H) (h : OdOk K w x (.d (.list ds))) : ∃ p vs, x = .ref p ∧ SqL K w.H p vs ∧ RpAll K w.G vs ds := by
  rcases h with h | ⟨p, vs, ds, rfl, e, hv, ra⟩
  · cases h with
    | lst a b => exact ⟨_, _, rfl, hx.seq a, b⟩
  · cases e
    exact ⟨p, vs, rfl, SqL.of hv, ra⟩
theorem OdOk.dict {x : V} {es : List (D × D)} (hx : Same w.G w.H) (h : OdOk K w x (.d (.dict es))) (nt : isTag es = false) : ∃ p ws, x = .ref p ∧ w.H p = some (.dK ws) ∧ RpKv K w.G ws es := by
  rcases h with h | ⟨p, vs, ds, rfl, e, hv, ra⟩
  · cases h with
    | dct a b => exact ⟨_, _, rfl, hx _ _ a, b⟩
    | dctT a b => cases nt
    | dctN a g b => cases nt
    | dctF a b => cases nt
  · cases e
theorem Gr.trans {w w1 w2 : Wd} (a : Gr w w1) (b : Gr w1 w2) : Gr w w2 := ⟨b.r.trans a.r, b.f.trans a.f, a.g.trans b.g, a.h.trans b.h, fun h => b.e (a.e h), fun p o e nt g => b.n p o (a.h _ _ e) nt (a.n p o e nt g), fun h => b.t (a.t h)⟩
end
end Vm
namespace Vm
open PySem L2
section
variable {K : Fg} {w : Wd}
/-! ### reading the whole heap: Reads of what stands for data -/
mutual
theorem Rp.reads {X : Cx} {pins : List (Addr × Obj)} {σ : St} {H : Hp} {s : Shared} (I : Inv X pins σ H s) : ∀ (d : PyData) (v : V) (u : Value), d.plain = true → Rp X.K H v d → RelV v u → ∃ as, Reads s.heap u d as
  | .none, _, _, _, h, r => by
    cases h
    cases r
    exact ⟨_, Reads.none⟩
  | .bool b, _, _, _, h, r => by
    cases h
    cases r
    exact ⟨_, Reads.bool b⟩
  | .int i, _, _, _, h, r => by
    cases h
    obtain ⟨t, rfl⟩ := r
    exact ⟨_, Reads.int i t⟩
  | .str x, _, _, _, h, r => by
    cases h
    obtain ⟨t, rfl⟩ := r
    exact ⟨_, Reads.str x t⟩
  | .list ds, _, _, hp, h, r => by
    cases h with
    | lst hs ha =>
      cases r
      obtain ⟨its, rv, ⟨o, n, ho, hc, _, hd⟩, _⟩ := I.list hs
      obtain ⟨as, hr⟩ := RpAll.reads I ds _ its (by simpa [PyData.plain] using hp) ha rv
      exact ⟨_, Reads.list ho hc hd hr⟩
  | .tuple ds, _, _, hp, h, r => by
    cases h with
    | tup hs ha =>
      cases r
      obtain ⟨its, rv, ⟨o, ho, hc, n, hd⟩, _⟩ := I.tuple (SqT.of (K := X.K) hs)
      obtain ⟨as, hr⟩ := RpAll.reads I ds _ its (by simpa [PyData.plain] using hp) ha rv
      exact ⟨_, Reads.tuple ho hc hd hr⟩
  | .dict _, _, _, hp, _, _ => by simp [PyData.plain] at hp
theorem RpAll.reads {X : Cx} {pins : List (Addr × Obj)} {σ : St} {H : Hp} {s : Shared} (I : Inv X pins σ H s) : ∀ (ds : List PyData) (vs : List V) (us : List Value), PyData.plainAll ds = true → RpAll X.K H vs ds → Vals vs us → ∃ as, ReadsAll s.heap us ds as
  | [], _, _, _, h, r => by
    cases h
    cases r
    exact ⟨_, ReadsAll.nil⟩
  | d :: ds, _, _, hp, h, r => by
    have hp' : d.plain = true ∧ PyData.plainAll ds = true := by simpa [PyData.plainAll] using hp
    cases h with
    | cons h1 h2 =>
      cases r with
      | cons r1 r2 =>
        obtain ⟨as, q1⟩ := Rp.reads I d _ _ hp'.1 h1 r1
        obtain ⟨bs, q2⟩ := RpAll.reads I ds _ _ hp'.2 h2 r2
        exact ⟨_, ReadsAll.cons q1 q2⟩
end
end
section
variable {X : Cx} {ec : EC} {W : WX}
/-- the judgement: the expression does what the closure does -/
abbrev Ex (X : Cx) (ec : EC) (W : WX) (e : Expr) (c : CE) : Prop := PE X e (rd X.K ec W c)
abbrev Tx (X : Cx) (ec : EC) (W : WX) (e : Expr) (c : CT) : Prop := PT X e (rdT X.K ec W c)
/-! ### names, constants -/
def cVar (i : Nat) : CE := fun s => match s.v[i]? with
  | some (.d x) => .ok (.d x) s
  | some (.c n) => .ok (.ref n) s
  | some (.t b es) => .ok (.t b es) s
  | _ => .bad
theorem e_var (i : Nat) {x : Str} {pos : Pos} (hN : X.N[i]? = some x := by rfl) (hv : Vis X.env.scope x := by first | exact Or.inl rfl | exact Or.inr (Or.inl rfl) | exact Or.inr (Or.inr rfl)) (hd : (x == ("__debug__" : Str)) = false := by decide)
    (hcd : (x == ("__classdict__" : Str)) = false := by decide) : Ex X ec W (.Name x pos) (cVar i) := (pe_var hN hv hd hcd).imp fun σ H Q h => by
  obtain ⟨w, s, rfl, hr, h⟩ := h
  unfold cVar at h
  split at h
  · rename_i y e
    obtain ⟨v, e2, rp⟩ := hr.slot i _ e
    exact ⟨v, e2, h v w (Le.refl w) hr rp .d⟩
  · rename_i n e
    obtain ⟨p, e2, rp⟩ := hr.slot i _ e
    exact ⟨.ref p, e2, h (.ref p) w (Le.refl w) hr ⟨p, rfl, rp⟩ .ref⟩
  · rename_i b es e
    obtain ⟨v, e2, rp⟩ := hr.slot i _ e
    exact ⟨v, e2, h v w (Le.refl w) hr rp .t⟩
  · exact h.elim
def cC (d : D) : CE := fun s => .ok (.d d) s
theorem e_const {v : V} {d : D} {e : Expr} (he : PE X e (tC v)) (hd : ∀ H, Rp X.K H v d) : Ex X ec W e (cC d) := he.imp fun σ H Q h => by
  obtain ⟨w, s, rfl, hr, h⟩ := h
  exact h v w (Le.refl w) hr (hd _) .d
theorem e_int {i j pos} : Ex X ec W (.Constant (.int i) j pos) (cC (.int i)) := e_const pe_int fun _ => .int i
theorem e_bool {i j pos} : Ex X ec W (.Constant (.bool i) j pos) (cC (.bool i)) := e_const pe_bl fun _ => .bl i
theorem e_none {j pos} : Ex X ec W (.Constant .none j pos) (cC .none) := e_const pe_non fun _ => .non
theorem e_str {i j pos} : Ex X ec W (.Constant (.str i) j pos) (cC (.str i)) := e_const pe_str fun _ => .str i
/-- a module's constant -/
theorem e_glob {x : Str} {v : V} {u : Value} {d : D} {pos : Pos} (hm : X.mg x = some u) (r : RelV v u) (hd : ∀ H, Rp X.K H v d) (hg : Gl X x := by rfl) (hb : (x == ("__debug__" : Str)) = false := by decide) : Ex X ec W (.Name x pos) (cC d) := e_const (pe_glob hg hm r hb) hd
/-! ### argument lists that become data -/
abbrev CA := S → R (List D)
def cNil : CA := fun s => .ok [] s
def cCons (c : CE) (ca : CA) : CA := fun s => (cv c s).bind fun a s1 => match a with
  | .d x => (ca s1).bind fun xs s2 => .ok (x :: xs) s2
  | _ => .bad
def rdA (K : Fg) (ec : EC) (W : WX) (c : CA) : TA := fun σ H Q => ∃ w s, w.H = H ∧ Rel ec K w σ s ∧ Res (fun ds s' => ∀ vs w', Le w w' → Rel ec K w' σ s' → RpAll K w'.G vs ds → Q vs w'.H) (okE K ec W σ w) (c s)
theorem _root_.L2.PA.imp {X : Cx} {es : List Expr} {t t' : TA} (h : PA X es t) (i : ∀ σ H Q, t' σ H Q → t σ H Q) : PA X es t' := ⟨fun pos pins s σ H Q I q => h.run pos pins s σ H Q I (i _ _ _ q)⟩
theorem a_nil : PA X [] (rdA X.K ec W cNil) := PA.imp pa_nil fun σ H Q h => by
  obtain ⟨w, s, rfl, hr, h⟩ := h
  exact h [] w (Le.refl w) hr .nil
theorem a_cons {e : Expr} {es : List Expr} {c : CE} {ca : CA} (h1 : Ex X ec W e c) (h2 : PA X es (rdA X.K ec W ca)) (hs : starEach (e :: es) X.env = (false, eval e X.env) :: starEach es X.env := by rfl) : PA X (e :: es) (rdA X.K ec W (cCons c ca)) :=
  PA.imp (pa_cons h1 h2 hs) fun σ H Q h => by
    obtain ⟨w, s, rfl, hr, h⟩ := h
    show rd X.K ec W c σ w.H _
    refine run_cv hr h fun x w1 s1 a le1 hr1 ha hn h1 => ?_
    cases a with
    | ref n => exact h1.elim
    | t _ _ => exact h1.elim
    | new c => exact absurd rfl (hn c)
    | d y =>
      refine ⟨w1, s1, rfl, hr1, ?_⟩
      refine Res.mono h1.bind (fun ds s2 h2 vs w2 le2 hr2 rp => ?_) fun _ _ q => okE_le le1 q
      exact h2 (x :: vs) w2 (le1.trans le2) hr2 (.cons (Rp.mono le2.g _ _ ha) rp)
def cTup (ca : CA) : CE := fun s => (ca s).bind fun ds s1 => .ok (.d (.tuple ds)) s1
def cLst (ca : CA) : CE := fun s => (ca s).bind fun ds s1 => .ok (.new (.l ds)) s1
theorem sz1000 {n : Nat} (h : n ≤ 1000) : n ≤ sizeLine := Nat.le_trans h (by decide)
theorem e_tup {es : List Expr} {ca : CA} {x1} {pos : Pos} (h : PA X es (rdA X.K ec W ca)) (hl : ∀ s ds s', ca s = .ok ds s' → ds.length ≤ 1000) : Ex X ec W (.Tuple es x1 pos) (cTup ca) := (pe_tup h).imp fun σ H Q h => by
  obtain ⟨w, s, rfl, hr, h⟩ := h
  refine ⟨w, s, rfl, hr, ?_⟩
  unfold cTup at h
  cases e : ca s with
  | bad => rw [e] at h; exact h
  | ex n s' => rw [e] at h; exact h
  | ok ds s' =>
    rw [e] at h
    intro vs w' le r' rp
    have hz : vs.length ≤ sizeLine := by
      rw [rp.length]
      exact sz1000 (hl _ _ _ e)
    exact ⟨hz, fun p hp => post_tup (post_of r' fun z w2 le2 r2 o f => h z w2 (le.trans le2) r2 o (f.back le le2 o)) rp hp r'.mem.ext⟩
theorem e_lst {es : List Expr} {ca : CA} {pos : Pos} (h : PA X es (rdA X.K ec W ca)) (hl : ∀ s ds s', ca s = .ok ds s' → ds.length ≤ 1000) : Ex X ec W (.List es pos) (cLst ca) := (pe_lst h).imp fun σ H Q h => by
  obtain ⟨w, s, rfl, hr, h⟩ := h
  refine ⟨w, s, rfl, hr, ?_⟩
  unfold cLst at h
  cases e : ca s with
  | bad => rw [e] at h; exact h
  | ex n s' => rw [e] at h; exact h
  | ok ds s' =>
    rw [e] at h
    intro vs w' le r' rp
    have hz : vs.length ≤ sizeLine := by
      rw [rp.length]
      exact sz1000 (hl _ _ _ e)
    exact ⟨hz, fun p hp => post_lst (post_of r' fun z w2 le2 r2 o f => h z w2 (le.trans le2) r2 o (f.back le le2 o)) rp hp r'.mem.ext⟩
/-- a written list of arguments has its length -/
def CLen (n : Nat) (ca : CA) : Prop := ∀ s ds s', ca s = .ok ds s' → ds.length = n
theorem cl_nil : CLen 0 cNil := fun s ds s' e => by
  cases e
  rfl
theorem cl_cons {n : Nat} {c : CE} {ca : CA} (h : CLen n ca) : CLen (n + 1) (cCons c ca) := fun s ds s' e => by
  unfold cCons at e
  cases e1 : cv c s with
  | bad => rw [e1] at e; cases e
  | ex _ _ => rw [e1] at e; cases e
  | ok a s1 =>
    rw [e1] at e
    cases a with
    | ref _ => cases e
    | t _ _ => cases e
    | new _ => cases e
    | d x =>
      simp only [R.bind] at e
      cases e2 : ca s1 with
      | bad => rw [e2] at e; cases e
      | ex _ _ => rw [e2] at e; cases e
      | ok xs s2 =>
        rw [e2] at e
        cases e
        show xs.length + 1 = n + 1
        rw [h _ _ _ e2]
theorem CLen.le {n : Nat} {ca : CA} (h : CLen n ca) (hn : n ≤ 1000) : ∀ s ds s', ca s = .ok ds s' → ds.length ≤ 1000 := fun s ds s' e => by
  rw [h s ds s' e]
  exact hn
/-! ### tests -/
def truthy : Od → Option Bool
  | .d .none => some false
  | .d (.bool b) => some b
  | .d (.int i) => some (i != 0)
  | .d (.list ds) => some (!ds.isEmpty)
  | .d (.tuple ds) => some (!ds.isEmpty)
  | .c (.k kvs) => some (!kvs.isEmpty)
  | _ => none
def cTru (c : CE) : CT := fun s => (cv c s).bind fun a s1 => opt (a.od s1.m) fun o => opt (truthy o) fun b => .ok b s1
theorem isEmpty_len {α β : Type} {xs : List α} {ys : List β} (h : xs.length = ys.length) : xs.isEmpty = ys.isEmpty := by
  cases xs <;> cases ys <;> simp_all
theorem paired_len {α β : Type} {F : α → β → Prop} {xs : List α} {ys : List β} (h : Paired F xs ys) : xs.length = ys.length := Paired.length h
theorem truthy_ok {K : Fg} {w : Wd} {x : V} {o : Od} {b : Bool} (hx : Same w.G w.H) (h : OdOk K w x o) (e : truthy o = some b) : TruV K x w.H b := by
  unfold truthy at e
  split at e
  · cases e
    rw [h.none]
    exact rfl
  · cases e
    rw [h.bool]
    exact rfl
  · cases e
    rw [h.int]
    exact rfl
  · cases e
    obtain ⟨p, vs, rfl, hs, ra⟩ := h.list hx
    exact .inl ⟨vs, hs, by rw [isEmpty_len ra.length]⟩
  · cases e
    obtain ⟨p, vs, rfl, hs, ra⟩ := h.tup
    exact .inr (.inl ⟨vs, SqT.of (hx _ _ hs), by rw [isEmpty_len ra.length]⟩)
  · cases e
    obtain ⟨p, rfl, ⟨_, ws, hw, ra⟩, _⟩ := h
    exact .inr (.inr ⟨ws, hw, by rw [isEmpty_len (paired_len ra)]⟩)
  · cases e
theorem t_of {e : Expr} {c : CE} (h : Ex X ec W e c) (he : ∀ whole, isTrue e X.env whole = (do let v ← whole; standAt e.pos; holding [v] (PySem.truthy v)) := by intro _; rfl) : Tx X ec W e (cTru c) :=
  (pt_truth h he).imp fun σ H Q h => by
    obtain ⟨w, s, rfl, hr, h⟩ := h
    refine run_cv hr h fun x w1 s1 a le1 hr1 ha hn h1 => ?_
    obtain ⟨o, e1, h2⟩ := h1.opt
    obtain ⟨b, e2, h3⟩ := h2.opt
    exact ⟨b, truthy_ok hr1.mem.ext (od_of hr1 ha e1) e2, h3 w1 le1 hr1⟩
def tAnd' (a b : CT) : CT := fun s => (a s).bind fun x s1 => if x = true then b s1 else .ok false s1
def tOr' (a b : CT) : CT := fun s => (a s).bind fun x s1 => if x = true then .ok true s1 else b s1
def tNot' (a : CT) : CT := fun s => (a s).bind fun x s1 => .ok (!x) s1
abbrev Px (X : Cx) (ec : EC) (W : WX) (e : Expr) (c : CT) : Prop := PW X e (rdT X.K ec W c)
theorem _root_.L2.PW.imp {X : Cx} {e : Expr} {t t' : TT} (h : PW X e t) (i : ∀ σ H Q, t' σ H Q → t σ H Q) : PW X e t' := ⟨fun wh pins s σ H Q I q => h.run wh pins s σ H Q I (i _ _ _ q)⟩
theorem p_and1 {a : Expr} {c : CT} {pos : Pos} (ha : Tx X ec W a c) : Px X ec W (.BoolOp .And [a] pos) c := pw_and1 ha
theorem p_or1 {a : Expr} {c : CT} {pos : Pos} (ha : Tx X ec W a c) : Px X ec W (.BoolOp .Or [a] pos) c := pw_or1 ha
theorem run_t {K : Fg} {σ : St} {w : Wd} {s : S} {α : Type} {c : CT} {k : Bool → S → R α} {P : α → S → Prop} {Q : Bool → Hp → Prop} (hr : Rel ec K w σ s) (h : Res P (okE K ec W σ w) ((c s).bind k))
    (hk : ∀ b w1 s1, Le w w1 → Rel ec K w1 σ s1 → Res P (okE K ec W σ w) (k b s1) → Q b w1.H) : rdT K ec W c σ w.H Q := by
  refine ⟨w, s, rfl, hr, ?_⟩
  cases e : c s with
  | bad => rw [e] at h; exact h
  | ex n s' => rw [e] at h; exact h
  | ok b s' =>
    rw [e] at h
    exact fun w' le r' => hk b w' s' le r' h
theorem p_and {a b : Expr} {rest : List Expr} {c d : CT} {pos : Pos} (ha : Tx X ec W a c) (hb : Px X ec W (.BoolOp .And (b :: rest) pos) d) : Px X ec W (.BoolOp .And (a :: b :: rest) pos) (tAnd' c d) := PW.imp (pw_and ha hb) fun σ H Q h => by
  obtain ⟨w, s, rfl, hr, h⟩ := h
  refine run_t hr h fun x w1 s1 le1 hr1 h1 => ?_
  cases x with
  | true => exact iteT ⟨w1, s1, rfl, hr1, FinT.le le1 h1⟩
  | false => exact iteF (h1 w1 le1 hr1)
theorem p_or {a b : Expr} {rest : List Expr} {c d : CT} {pos : Pos} (ha : Tx X ec W a c) (hb : Px X ec W (.BoolOp .Or (b :: rest) pos) d) : Px X ec W (.BoolOp .Or (a :: b :: rest) pos) (tOr' c d) := PW.imp (pw_or ha hb) fun σ H Q h => by
  obtain ⟨w, s, rfl, hr, h⟩ := h
  refine run_t hr h fun x w1 s1 le1 hr1 h1 => ?_
  cases x with
  | true => exact iteT (h1 w1 le1 hr1)
  | false => exact iteF ⟨w1, s1, rfl, hr1, FinT.le le1 h1⟩
theorem t_bop {e : Expr} {c : CT} (h : Px X ec W e c) : Tx X ec W e c := h.pt
theorem t_not {a : Expr} {c : CT} {pos : Pos} (ha : Tx X ec W a c) : Tx X ec W (.UnaryOp .Not a pos) (tNot' c) := (pt_not ha).imp fun σ H Q h => by
  obtain ⟨w, s, rfl, hr, h⟩ := h
  exact run_t hr h fun x w1 s1 le1 hr1 h1 => h1 w1 le1 hr1
/-! ### as values: and, or, not; a if t else b -/
def cB (c : CE) : CT := fun s => (cv c s).bind fun a s1 => match a with
  | .d (.bool b) => .ok b s1
  | _ => .bad
def cAnd (a b : CE) : CE := fun s => (cB a s).bind fun x s1 => if x = true then b s1 else .ok (.d (.bool false)) s1
def cOr (a b : CE) : CE := fun s => (cB a s).bind fun x s1 => if x = true then .ok (.d (.bool true)) s1 else b s1
def cNot (a : CE) : CE := fun s => (cB a s).bind fun x s1 => .ok (.d (.bool (!x))) s1
theorem run_b {K : Fg} {σ : St} {w : Wd} {s : S} {α : Type} {c : CE} {k : Bool → S → R α} {P : α → S → Prop} {Q : VK} (hr : Rel ec K w σ s) (h : Res P (okE K ec W σ w) ((cB c s).bind k))
    (hk : ∀ b w1 s1, Le w w1 → Rel ec K w1 σ s1 → Res P (okE K ec W σ w) (k b s1) → Q (.bl b) w1.H) : rd K ec W c σ w.H Q := by
  have h' : Res P (okE K ec W σ w) ((cv c s).bind fun a s1 => (match a with
    | .d (.bool b) => R.ok b s1
    | _ => R.bad).bind k) := by
    unfold cB at h
    cases e : cv c s with
    | bad => rw [e] at h; exact h
    | ex n s' => rw [e] at h; exact h
    | ok a s' => rw [e] at h; exact h
  refine run_cv hr h' fun x w1 s1 a le1 hr1 ha hn h1 => ?_
  cases a with
  | ref n => exact h1.elim
  | t _ _ => exact h1.elim
  | new c => exact h1.elim
  | d y =>
    cases y with
    | bool b =>
      have e : x = .bl b := by
        have ha : Rp K w1.G x (.bool b) := ha
        cases ha
        rfl
      rw [e]
      exact hk b w1 s1 le1 hr1 h1
    | none => exact h1.elim
    | int _ => exact h1.elim
    | str _ => exact h1.elim
    | list _ => exact h1.elim
    | tuple _ => exact h1.elim
    | dict _ => exact h1.elim
theorem e_one {op} {a : Expr} {c : CE} {pos : Pos} (ha : Ex X ec W a c) : Ex X ec W (.BoolOp op [a] pos) c := pe_one ha
theorem e_and {a b : Expr} {rest : List Expr} {c d : CE} {pos : Pos} (ha : Ex X ec W a c) (hb : Ex X ec W (.BoolOp .And (b :: rest) pos) d) : Ex X ec W (.BoolOp .And (a :: b :: rest) pos) (cAnd c d) := (pe_and ha hb).imp fun σ H Q h => by
  obtain ⟨w, s, rfl, hr, h⟩ := h
  refine run_b hr h fun x w1 s1 le1 hr1 h1 => ⟨x, rfl, ?_⟩
  cases x with
  | true => exact iteT ⟨w1, s1, rfl, hr1, FinV.le le1 h1⟩
  | false => exact iteF (h1 (.bl false) w1 le1 hr1 (.bl false) .d)
theorem e_or {a b : Expr} {rest : List Expr} {c d : CE} {pos : Pos} (ha : Ex X ec W a c) (hb : Ex X ec W (.BoolOp .Or (b :: rest) pos) d) : Ex X ec W (.BoolOp .Or (a :: b :: rest) pos) (cOr c d) := (pe_or ha hb).imp fun σ H Q h => by
  obtain ⟨w, s, rfl, hr, h⟩ := h
  refine run_b hr h fun x w1 s1 le1 hr1 h1 => ⟨x, rfl, ?_⟩
  cases x with
  | true => exact iteT (h1 (.bl true) w1 le1 hr1 (.bl true) .d)
  | false => exact iteF ⟨w1, s1, rfl, hr1, FinV.le le1 h1⟩
theorem e_not {a : Expr} {c : CE} {pos : Pos} (ha : Ex X ec W a c) : Ex X ec W (.UnaryOp .Not a pos) (cNot c) := (pe_not ha).imp fun σ H Q h => by
  obtain ⟨w, s, rfl, hr, h⟩ := h
  exact run_b hr h fun x w1 s1 le1 hr1 h1 => ⟨x, rfl, h1 (.bl (!x)) w1 le1 hr1 (.bl _) .d⟩
def cIf (t : CT) (a b : CE) : CE := fun s => (t s).bind fun x s1 => if x = true then a s1 else b s1
/-! ### operators, calls by values -/
theorem e_bin {op : Operator} {a b : Expr} {ca cb : CE} {r : R2} {f : Od → Od → Option Rv} {pos : Pos} (ho : OpR X (binaryOp op) r) (hs : Op2S X.K r f) (ha : Ex X ec W a ca) (hb : Ex X ec W b cb) : Ex X ec W (.BinOp a op b pos) (cOp2 f ca cb) :=
  (pe_op ho ha hb).imp fun _ _ _ h => op2 hs h
theorem e_cmp {op : CmpOp} {a b : Expr} {ca cb : CE} {r : R2} {f : Od → Od → Option Rv} {pos : Pos} (ho : OpR X (compareOp op) r) (hs : Op2S X.K r f) (ha : Ex X ec W a ca) (hb : Ex X ec W b cb) (hm : behindInMarks op b = false := by first | exact nomark _ | rfl) : Ex X ec W (.Compare a [op] [b] pos) (cOp2 f ca cb) :=
  (pe_cmpR ho ha hb hm).imp fun _ _ _ h => op2 hs h
theorem e_un {op : UnaryOp} {a : Expr} {ca : CE} {r : V → Hp → VK → Prop} {f : Od → Option Rv} {pos : Pos} (ho : UnR X (unaryOp op) r) (hs : Op1S X.K r f) (ha : Ex X ec W a ca) : Ex X ec W (.UnaryOp op a pos) (cOp1 f ca) :=
  (pe_un ho ha).imp fun _ _ _ h => op1 hs h
theorem e_ixR {a b : Expr} {ca cb : CE} {r : R2} {f : Od → Od → Option Rv} {pos : Pos} (hr : IxR X r) (hs : Op2S X.K r f) (ha : Ex X ec W a ca) (hb : Ex X ec W b cb) (hp : PlainIx b := by exact fun _ _ => rfl) : Ex X ec W (.Subscript a b pos) (cOp2 f ca cb) :=
  (pe_ix hr ha hb hp).imp fun _ _ _ h => op2 hs h
theorem e_call1 {id : String} {x : Str} {a : Expr} {ca : CE} {r : List V → Hp → VK → Prop} {f : Od → Option Rv} {p pos : Pos} (hc : CallR X (.builtin id) r) (hs : Op1S X.K (fun v => r [v]) f) (hm : X.mg x = none) (hv : bootBuiltins x = some (.builtin id)) (ha : Ex X ec W a ca)
    (hg : Gl X x := by rfl) (hn : x ≠ "__name__" := by decide) (hd : (x == ("__debug__" : Str)) = false := by decide) (h1 : starEach [a] X.env = (false, eval a X.env) :: starEach [] X.env := by rfl) (h2 : (backTo pos (starEach [] X.env)).any (·.1) = false := by rfl) : Ex X ec W (.Call (.Name x p) [a] [] pos) (cOp1 f ca) :=
  (pe_callB hc hg hm hv (pa_cons ha pa_nil h1) hn hd h1 h2).imp fun _ _ _ h => op1 hs h
theorem e_call2 {id : String} {x : Str} {a b : Expr} {ca cb : CE} {r : List V → Hp → VK → Prop} {f : Od → Od → Option Rv} {p pos : Pos} (hc : CallR X (.builtin id) r) (hs : Op2S X.K (fun v u => r [v, u]) f) (hm : X.mg x = none) (hv : bootBuiltins x = some (.builtin id)) (ha : Ex X ec W a ca) (hb : Ex X ec W b cb)
    (hg : Gl X x := by rfl) (hn : x ≠ "__name__" := by decide) (hd : (x == ("__debug__" : Str)) = false := by decide) (h0 : starEach [b] X.env = (false, eval b X.env) :: starEach [] X.env := by rfl) (h1 : starEach [a, b] X.env = (false, eval a X.env) :: starEach [b] X.env := by rfl) (h2 : (backTo pos (starEach [b] X.env)).any (·.1) = false := by rfl) :
    Ex X ec W (.Call (.Name x p) [a, b] [] pos) (cOp2 f ca cb) :=
  (pe_callB hc hg hm hv (pa_cons ha (pa_cons hb pa_nil h0) h1) hn hd h1 h2).imp fun _ _ _ h => op2 hs h
theorem e_callT1 {T : String} {x : Str} {a : Expr} {ca : CE} {r : List V → Hp → VK → Prop} {f : Od → Option Rv} {p pos : Pos} (hc : CallR X (.type T) r) (hs : Op1S X.K (fun v => r [v]) f) (hm : X.mg x = none) (hv : bootBuiltins x = some (.type T)) (ha : Ex X ec W a ca)
    (hg : Gl X x := by rfl) (hn : x ≠ "__name__" := by decide) (hd : (x == ("__debug__" : Str)) = false := by decide) (h1 : starEach [a] X.env = (false, eval a X.env) :: starEach [] X.env := by rfl) (h2 : (backTo pos (starEach [] X.env)).any (·.1) = false := by rfl) : Ex X ec W (.Call (.Name x p) [a] [] pos) (cOp1 f ca) :=
  (pe_callTy hc hg hm hv (pa_cons ha pa_nil h1) hn hd h1 h2).imp fun _ _ _ h => op1 hs h
end
end Vm
namespace Vm
open PySem L2 PySem.W PyProof.Rows
theorem rp_ints {K : Fg} {H : Hp} : ∀ {ns : List Int} {vs : List V}, RpAll K H vs (ns.map PyData.int) → vs = ns.map V.int
  | [], _, h => by
    cases h
    rfl
  | n :: ns, _, h => by
    cases h with
    | cons h1 h2 =>
      cases h1
      rw [rp_ints h2]
      rfl
theorem rp_bools {K : Fg} {H : Hp} : ∀ {ns : List Bool} {vs : List V}, RpAll K H vs (ns.map PyData.bool) → vs = ns.map V.bl
  | [], _, h => by
    cases h
    rfl
  | n :: ns, _, h => by
    cases h with
    | cons h1 h2 =>
      cases h1
      rw [rp_bools h2]
      rfl
theorem rpAll_ints {K : Fg} {H : Hp} : ∀ ns : List Int, RpAll K H (ns.map V.int) (ns.map PyData.int)
  | [] => .nil
  | n :: ns => .cons (.int n) (rpAll_ints ns)
/-- all ints -/
def ints? : List D → Option (List Int)
  | [] => some []
  | .int i :: r => match ints? r with
    | some l => some (i :: l)
    | none => none
  | _ :: _ => none
def bools? : List D → Option (List Bool)
  | [] => some []
  | .bool i :: r => match bools? r with
    | some l => some (i :: l)
    | none => none
  | _ :: _ => none
theorem ints?_eq : ∀ {ds : List D} {ns : List Int}, ints? ds = some ns → ds = ns.map PyData.int
  | [], ns, h => by
    cases h
    rfl
  | .int i :: r, ns, h => by
    unfold ints? at h
    split at h
    · rename_i l e
      cases h
      rw [ints?_eq e]
      rfl
    · cases h
  | .none :: _, _, h => by cases h
  | .bool _ :: _, _, h => by cases h
  | .str _ :: _, _, h => by cases h
  | .list _ :: _, _, h => by cases h
  | .tuple _ :: _, _, h => by cases h
  | .dict _ :: _, _, h => by cases h
theorem bools?_eq : ∀ {ds : List D} {ns : List Bool}, bools? ds = some ns → ds = ns.map PyData.bool
  | [], ns, h => by
    cases h
    rfl
  | .bool i :: r, ns, h => by
    unfold bools? at h
    split at h
    · rename_i l e
      cases h
      rw [bools?_eq e]
      rfl
    · cases h
  | .none :: _, _, h => by cases h
  | .int _ :: _, _, h => by cases h
  | .str _ :: _, _, h => by cases h
  | .list _ :: _, _, h => by cases h
  | .tuple _ :: _, _, h => by cases h
  | .dict _ :: _, _, h => by cases h
theorem ints?_map : ∀ ns : List Int, ints? (ns.map PyData.int) = some ns
  | [] => rfl
  | n :: ns => by
    show (match ints? (ns.map PyData.int) with
      | some l => some (n :: l)
      | none => none) = _
    rw [ints?_map ns]
section
variable {X : Cx}
/-! ### + -/
def rCatV (K : Fg) : R2 := fun x y H Q => ∃ l b xs zs, x = .ref l ∧ y = .ref b ∧ SqL K H l xs ∧ SqL K H b zs ∧ xs.length + zs.length ≤ sizeLine ∧ ∀ p, H p = none → Q (.ref p) (upd H p (.lst (xs ++ zs)))
theorem op_catV : OpR X (binaryOp .Add) (rCatV X.K) := by
  intro pins s σ H x y v u Q I rx ry h
  obtain ⟨l, b, xs, zs, rfl, rfl, hH, hB, hz, q⟩ := h
  cases rx
  cases ry
  obtain ⟨its, r, pl, _⟩ := I.list hH
  obtain ⟨its2, r2, pl2, _⟩ := I.list hB
  obtain ⟨⟨cls, dd, data, sl⟩, n, ho, hc, hdd, hd⟩ := pl
  obtain ⟨⟨cls2, dd2, data2, sl2⟩, n2, ho2, hc2, hdd2, hd2⟩ := pl2
  simp only at hc hd hc2 hd2 hdd hdd2
  subst hc hd hc2 hd2
  have e : its.toArray ++ its2.toArray = (its ++ its2).toArray := by simp
  have hsz : its.length + its2.length ≤ sizeLine := by rw [← r.length, ← r2.length]; exact hz
  refine concat_meets ⟨_, ho, rfl⟩ ⟨_, ho2, rfl⟩ noFill_list_add seq_list_add PySem.F.slot_list_add PySem.F.entry_list_add (PySem.F.args_list_add_2 _ _) (list_addW l b its.toArray its2.toArray n n2 dd dd2 sl sl2 (by simpa using hsz)) ⟨ho, ho2, ?_⟩
  rw [e]
  exact ⟨.ref _, _, I.lnew (t' := s.toks) (r.append r2) (by rw [List.length_append]; omega), rfl, q _ I.fresh⟩
def rStrCat : R2 := fun x y H Q => ∃ i j, x = .str i ∧ y = .str j ∧ i.length + j.length ≤ sizeLine ∧ Q (.str (i ++ j)) H
def rAdd (K : Fg) : R2 := fun x y H Q => (rI0 fun i j => .int (i + j)) x y H Q ∨ rStrCat x y H Q ∨ rCatA K x y H Q ∨ rCatV K x y H Q
theorem or_add : OpR X (binaryOp .Add) (rAdd X.K) := OpR.or op_add (OpR.or op_add_str (OpR.or op_catA op_catV))
def opAdd : Od → Od → Option Rv
  | .d (.int i), .d (.int j) => some (.d (.int (i + j)))
  | .d (.str x), .d (.str y) => if x.length + y.length ≤ 16000000 then some (.d (.str (x ++ y))) else none
  | .d (.tuple xs), .d (.tuple ys) => if xs.length + ys.length ≤ 16000000 then some (.d (.tuple (xs ++ ys))) else none
  | .d (.list xs), .d (.list ys) => if xs.length + ys.length ≤ 16000000 then some (.new (.l (xs ++ ys))) else none
  | _, _ => none
theorem sz16 {n : Nat} (h : n ≤ 16000000) : n ≤ sizeLine := Nat.le_trans h (by decide)
theorem s_add {K : Fg} : Op2S K (rAdd K) opAdd := by
  intro w x y o o' rv Q hx h h' e q
  unfold opAdd at e
  split at e
  · cases e
    exact .inl ⟨_, _, h.int, h'.int, post_int q⟩
  · split at e
    · rename_i hl
      cases e
      exact .inr (.inl ⟨_, _, h.str, h'.str, sz16 hl, post_str q⟩)
    · cases e
  · split at e
    · rename_i xs ys hl
      cases e
      obtain ⟨p, vs, rfl, hs, ra⟩ := h.tup
      obtain ⟨p', vs', rfl, hs', ra'⟩ := h'.tup
      refine .inr (.inr (.inl ⟨p, p', vs, vs', rfl, rfl, SqT.of (hx _ _ hs), SqT.of (hx _ _ hs'), by rw [ra.length, ra'.length]; exact sz16 hl, fun e0 => ?_, fun _ e0 => ?_, fun _ _ a ha => post_tup q (ra.append ra') ha hx⟩))
      · subst e0
        cases ra
        exact post_d q (.tup hs' ra')
      · subst e0
        cases ra'
        rw [List.append_nil] at q
        exact post_d q (.tup hs ra)
    · cases e
  · split at e
    · rename_i xs ys hl
      cases e
      obtain ⟨p, vs, rfl, hs, ra⟩ := h.list hx
      obtain ⟨p', vs', rfl, hs', ra'⟩ := h'.list hx
      exact .inr (.inr (.inr ⟨p, p', vs, vs', rfl, rfl, hs, hs', by rw [ra.length, ra'.length]; exact sz16 hl, fun a ha => post_lst q (ra.append ra') ha hx⟩))
    · cases e
  · cases e
/-! ### - * // % ** on ints -/
def opSub : Od → Od → Option Rv
  | .d (.int i), .d (.int j) => some (.d (.int (i - j)))
  | _, _ => none
theorem s_sub {K : Fg} : Op2S K (rI0 fun i j => .int (i - j)) opSub := by
  intro w x y o o' rv Q hx h h' e q
  unfold opSub at e
  split at e
  · cases e
    exact ⟨_, _, h.int, h'.int, post_int q⟩
  · cases e
def mulOk (i j : Int) : Bool := decide (i.natAbs.log2 + j.natAbs.log2 < 100000000)
theorem mulOk_ok {i j : Int} (h : mulOk i j = true) : IntMulOk i j := by
  have h := of_decide_eq_true h
  have b : ∀ x : Int, Builtin.Int.intBits x ≤ x.natAbs.log2 + 1 := fun x => by
    unfold Builtin.Int.intBits
    split <;> omega
  have h1 := b i
  have h2 := b j
  have e : bitsLine = 134217728 := by decide
  unfold IntMulOk
  intro z
  rw [Bool.and_eq_true] at z
  have z2 := z.2
  unfold Builtin.Int.intTooBig at z2
  have z3 := of_decide_eq_true z2
  rw [e] at z3
  omega
theorem op_mulV : OpR X (binaryOp .Mult) (rI (fun i j => mulOk i j = true) fun i j => .int (i * j)) := opI fun _ _ _ _ _ _ _ hc q => mul_int q (mulOk_ok hc)
def rRepV (K : Fg) : R2 := fun x y H Q => ∃ l k xs, x = .ref l ∧ y = .int k ∧ SqL K H l xs ∧ -(2 ^ 63) ≤ k ∧ k < 2 ^ 63 ∧ xs.length * k.toNat ≤ sizeLine ∧ ∀ p, H p = none → Q (.ref p) (upd H p (.lst (List.replicate k.toNat xs).flatten))
theorem op_fdivV : OpR X (binaryOp .FloorDiv) (rI (fun _ j => j ≠ 0 ∧ j.natAbs.log2 < 9000) fun i j => .int (i.fdiv j)) := opI fun i j _ _ _ _ _ hc q => floordiv_int hc.1 q (.inl (PyProof.noPylong_of_log2 hc.2))
def fdv (i j : Int) : Int := if 0 < j then i / j else i.fdiv j
theorem fdv_eq (i j : Int) : i.fdiv j = fdv i j := by
  unfold fdv
  split
  · exact Int.fdiv_eq_ediv_of_nonneg i (by omega)
  · rfl
def fmd (i j : Int) : Int := if 0 < j then i % j else i.fmod j
theorem fmd_eq (i j : Int) : i.fmod j = fmd i j := by
  unfold fmd
  split
  · exact Int.fmod_eq_emod_of_nonneg i (by omega)
  · rfl
def opDiv : Od → Od → Option Rv
  | .d (.int i), .d (.int j) => if j ≠ 0 ∧ j.natAbs.log2 < 9000 then some (.d (.int (fdv i j))) else none
  | _, _ => none
theorem s_div {K : Fg} : Op2S K (rI (fun _ j => j ≠ 0 ∧ j.natAbs.log2 < 9000) fun i j => .int (i.fdiv j)) opDiv := by
  intro w x y o o' rv Q hx h h' e q
  unfold opDiv at e
  split at e
  · split at e
    · rename_i hm
      cases e
      rw [← fdv_eq] at q
      exact ⟨_, _, h.int, h'.int, hm, post_int q⟩
    · cases e
  · cases e
def opMod : Od → Od → Option Rv
  | .d (.int i), .d (.int j) => if j ≠ 0 then some (.d (.int (fmd i j))) else none
  | _, _ => none
theorem s_mod {K : Fg} : Op2S K (rI (fun _ j => j ≠ 0) fun i j => .int (i.fmod j)) opMod := by
  intro w x y o o' rv Q hx h h' e q
  unfold opMod at e
  split at e
  · split at e
    · rename_i hm
      cases e
      rw [← fmd_eq] at q
      exact ⟨_, _, h.int, h'.int, hm, post_int q⟩
    · cases e
  · cases e
def opPow : Od → Od → Option Rv
  | .d (.int i), .d (.int j) => if 0 ≤ j ∧ j ≤ 1000000 ∧ i.natAbs < 2 ^ 64 then some (.d (.int (i ^ j.toNat))) else none
  | _, _ => none
theorem s_pow {K : Fg} : Op2S K (rI CPow fun i j => .int (i ^ j.toNat)) opPow := by
  intro w x y o o' rv Q hx h h' e q
  unfold opPow at e
  split at e
  · split at e
    · rename_i hm
      cases e
      exact ⟨_, _, h.int, h'.int, hm, post_int q⟩
    · cases e
  · cases e
def opNeg : Od → Option Rv
  | .d (.int i) => some (.d (.int (-i)))
  | _ => none
theorem s_neg {K : Fg} : Op1S K (rU fun i => .int (-i)) opNeg := by
  intro w x o rv Q hx h e q
  unfold opNeg at e
  split at e
  · cases e
    exact ⟨_, h.int, post_int q⟩
  · cases e
/-! ### comparisons -/
/-- data without dicts, not deep -/
def okd (d : D) : Bool := d.plain && decide (d.depth ≤ 60)
theorem okd_iff {d : D} : okd d = true ↔ d.plain = true ∧ d.depth ≤ 60 := by
  unfold okd
  rw [Bool.and_eq_true, decide_eq_true_eq]
def rEqV (K : Fg) (neg : Bool) : R2 := fun x y H Q => ∃ d e, Rp K H x d ∧ Rp K H y e ∧ okd d = true ∧ okd e = true ∧ Q (.bl (if neg then !PyData.eqv d e else PyData.eqv d e)) H
theorem op_eqV (hu : X.A.units + 64 < cLine) : OpR X (compareOp .Eq) (rEqV X.K false) := by
  intro pins s σ H x y v u Q I rx ry h
  obtain ⟨d, e, hd, he, sd, se, q⟩ := h
  obtain ⟨pd, _⟩ := okd_iff.mp sd
  obtain ⟨pe, dl⟩ := okd_iff.mp se
  obtain ⟨as, r1⟩ := Rp.reads I d x v pd hd rx
  obtain ⟨bs, r2⟩ := Rp.reads I e y u pe he ry
  exact SeqAt.eq_plain r1 r2 pd pe (by omega) ⟨.bl _, H, I, rfl, q⟩
theorem op_neV (hu : X.A.units + 64 < cLine) : OpR X (compareOp .NotEq) (rEqV X.K true) := by
  intro pins s σ H x y v u Q I rx ry h
  obtain ⟨d, e, hd, he, sd, se, q⟩ := h
  obtain ⟨pd, _⟩ := okd_iff.mp sd
  obtain ⟨pe, dl⟩ := okd_iff.mp se
  obtain ⟨as, r1⟩ := Rp.reads I d x v pd hd rx
  obtain ⟨bs, r2⟩ := Rp.reads I e y u pe he ry
  exact SeqAt.ne_plain r1 r2 pd pe (by omega) ⟨.bl _, H, I, rfl, q⟩
def eqB : D → D → Option Bool
  | .int i, .int j => some (decide (i = j))
  | x, y => if okd x = true ∧ okd y = true then some (PyData.eqv x y) else none
def opEq : Od → Od → Option Rv
  | .d x, .d y => match eqB x y with
    | some b => some (.d (.bool b))
    | none => none
  | _, _ => none
def opNe : Od → Od → Option Rv
  | .d x, .d y => match eqB x y with
    | some b => some (.d (.bool (!b)))
    | none => none
  | _, _ => none
theorem eqB_ok {x y : D} {b : Bool} (h : eqB x y = some b) : okd x = true ∧ okd y = true ∧ PyData.eqv x y = b := by
  unfold eqB at h
  split at h
  · rename_i i j
    cases h
    refine ⟨rfl, rfl, ?_⟩
    show (i == j) = _
    exact Bool.beq_eq_decide_eq i j
  · split at h
    · rename_i hh
      cases h
      exact ⟨hh.1, hh.2, rfl⟩
    · cases h
theorem s_eq {K : Fg} : Op2S K (rEqV K false) opEq := by
  intro w x y o o' rv Q hx h h' e q
  unfold opEq at e
  split at e
  · split at e
    · rename_i b eb
      cases e
      obtain ⟨h1, h2, h3⟩ := eqB_ok eb
      refine ⟨_, _, h.rp hx, h'.rp hx, h1, h2, ?_⟩
      rw [if_neg (by decide), h3]
      exact post_bool q
    · cases e
  · cases e
theorem s_ne {K : Fg} : Op2S K (rEqV K true) opNe := by
  intro w x y o o' rv Q hx h h' e q
  unfold opNe at e
  split at e
  · split at e
    · rename_i b eb
      cases e
      obtain ⟨h1, h2, h3⟩ := eqB_ok eb
      refine ⟨_, _, h.rp hx, h'.rp hx, h1, h2, ?_⟩
      rw [if_pos rfl, h3]
      exact post_bool q
    · cases e
  · cases e
/-- <, >, <=, >= of data that are alike: f of «the first is less» and «the second is less» -/
def rOrd (K : Fg) (f : Bool → Bool → Bool) : R2 := fun x y H Q => ∃ d e, Rp K H x d ∧ Rp K H y e ∧ okd d = true ∧ okd e = true ∧ alike d e = true ∧ d ≠ .none ∧ Q (.bl (f (dataLt d e) (dataLt e d))) H
theorem op_ltV (hu : X.A.units + 64 < cLine) : OpR X (compareOp .Lt) (rOrd X.K fun a _ => a) := by
  intro pins s σ H x y v u Q I rx ry h
  obtain ⟨d, e, hd, he, sd, se, al, hn, q⟩ := h
  obtain ⟨pd, _⟩ := okd_iff.mp sd
  obtain ⟨pe, dl⟩ := okd_iff.mp se
  obtain ⟨as, r1⟩ := Rp.reads I d x v pd hd rx
  obtain ⟨bs, r2⟩ := Rp.reads I e y u pe he ry
  exact lt_data r1 r2 al hn (by omega) ⟨.bl _, H, I, rfl, q⟩
theorem op_gtV (hu : X.A.units + 64 < cLine) : OpR X (compareOp .Gt) (rOrd X.K fun _ b => b) := by
  intro pins s σ H x y v u Q I rx ry h
  obtain ⟨d, e, hd, he, sd, se, al, hn, q⟩ := h
  obtain ⟨pd, _⟩ := okd_iff.mp sd
  obtain ⟨pe, dl⟩ := okd_iff.mp se
  obtain ⟨as, r1⟩ := Rp.reads I d x v pd hd rx
  obtain ⟨bs, r2⟩ := Rp.reads I e y u pe he ry
  exact gt_data r1 r2 al hn (by omega) ⟨.bl _, H, I, rfl, q⟩
theorem op_leV (hu : X.A.units + 64 < cLine) : OpR X (compareOp .LtE) (rOrd X.K fun _ b => !b) := by
  intro pins s σ H x y v u Q I rx ry h
  obtain ⟨d, e, hd, he, sd, se, al, hn, q⟩ := h
  obtain ⟨pd, _⟩ := okd_iff.mp sd
  obtain ⟨pe, dl⟩ := okd_iff.mp se
  obtain ⟨as, r1⟩ := Rp.reads I d x v pd hd rx
  obtain ⟨bs, r2⟩ := Rp.reads I e y u pe he ry
  exact le_data r1 r2 al hn (by omega) ⟨.bl _, H, I, rfl, q⟩
theorem op_geV (hu : X.A.units + 64 < cLine) : OpR X (compareOp .GtE) (rOrd X.K fun a _ => !a) := by
  intro pins s σ H x y v u Q I rx ry h
  obtain ⟨d, e, hd, he, sd, se, al, hn, q⟩ := h
  obtain ⟨pd, _⟩ := okd_iff.mp sd
  obtain ⟨pe, dl⟩ := okd_iff.mp se
  obtain ⟨as, r1⟩ := Rp.reads I d x v pd hd rx
  obtain ⟨bs, r2⟩ := Rp.reads I e y u pe he ry
  exact ge_data r1 r2 al hn (by omega) ⟨.bl _, H, I, rfl, q⟩
def isNone : D → Bool
  | .none => true
  | _ => false
theorem isNone_iff {d : D} : isNone d = false → d ≠ .none := by
  intro h z
  subst z
  cases h
def opOrd (fi : Int → Int → Bool) (f : Bool → Bool → Bool) : Od → Od → Option Rv
  | .d (.int i), .d (.int j) => some (.d (.bool (fi i j)))
  | .d x, .d y => if okd x = true ∧ okd y = true ∧ alike x y = true ∧ isNone x = false then some (.d (.bool (f (dataLt x y) (dataLt y x)))) else none
  | _, _ => none
theorem s_ord {K : Fg} {fi : Int → Int → Bool} {f : Bool → Bool → Bool} : Op2S K (fun x y H Q => rI0 (fun i j => .bl (fi i j)) x y H Q ∨ rOrd K f x y H Q) (opOrd fi f) := by
  intro w x y o o' rv Q hx h h' e q
  unfold opOrd at e
  split at e
  · cases e
    exact .inl ⟨_, _, h.int, h'.int, post_bool q⟩
  · split at e
    · rename_i hh
      cases e
      exact .inr ⟨_, _, h.rp hx, h'.rp hx, hh.1, hh.2.1, hh.2.2.1, isNone_iff hh.2.2.2, post_bool q⟩
    · cases e
  · cases e
abbrev opLt := opOrd (fun i j => decide (i < j)) fun a _ => a
abbrev opLe := opOrd (fun i j => decide (i ≤ j)) fun _ b => !b
abbrev opGt := opOrd (fun i j => decide (j < i)) fun _ b => b
abbrev opGe := opOrd (fun i j => decide (j ≤ i)) fun a _ => !a
/-- is, is not: None, truths -/
def rIsV (neg : Bool) : R2 := fun x y H Q => (y = .non ∧ Q (.bl (if neg then !decide (x = .non) else decide (x = .non))) H) ∨ ∃ a b, x = .bl a ∧ y = .bl b ∧ Q (.bl (if neg then !decide (a = b) else decide (a = b))) H
theorem op_isV : OpR X (compareOp .Is) (rIsV false) := OpR.or op_isN op_isBl
def opIs (neg : Bool) : Od → Od → Option Rv
  | .d x, .d .none => some (.d (.bool (if neg then !isNone x else isNone x)))
  | .c _, .d .none => some (.d (.bool neg))
  | .d (.bool a), .d (.bool b) => some (.d (.bool (if neg then !decide (a = b) else decide (a = b))))
  | _, _ => none
/-! ### items -/
theorem atI_map {K : Fg} {G : Hp} {vs : List V} {ds : List D} {i : Int} {d : D} (r : RpAll K G vs ds) (h : atI ds i = some d) : ∃ v, atI vs i = some v ∧ Rp K G v d := by
  unfold atI at h ⊢
  rw [r.length]
  cases e : ixN ds.length i with
  | none => rw [e] at h; cases h
  | some j =>
    rw [e] at h
    exact r.get h
def rIxV (K : Fg) : R2 := fun x y H Q => (rIxL K) x y H Q ∨ (rIxT K) x y H Q ∨ rIxS x y H Q
theorem IxR.or {r r' : R2} (h : IxR X r) (h' : IxR X r') : IxR X (fun x y H Q => r x y H Q ∨ r' x y H Q) := by
  intro value slice pins s σ H x y v u Q I rx ry hh hs
  rcases hh with hh | hh
  · exact h value slice pins s σ H x y v u Q I rx ry hh hs
  · exact h' value slice pins s σ H x y v u Q I rx ry hh hs
theorem ixr_V : IxR X (rIxV X.K) := IxR.or ix_list (IxR.or ix_tup ix_str)
def opIx : Od → Od → Option Rv
  | .d (.list ds), .d (.int i) => match atI ds i with
    | some d => some (.d d)
    | none => none
  | .d (.tuple ds), .d (.int i) => match atI ds i with
    | some d => some (.d d)
    | none => none
  | .d (.str z), .d (.int i) => if z.length ≤ 16000000 then (match atI z.cps.toList i with
    | some c => some (.d (.str ⟨#[c]⟩))
    | none => none) else none
  | _, _ => none
theorem s_ix {K : Fg} : Op2S K (rIxV K) opIx := by
  intro w x y o o' rv Q hx h h' e q
  unfold opIx at e
  split at e
  · split at e
    · rename_i d ed
      cases e
      obtain ⟨p, vs, rfl, hs, ra⟩ := h.list hx
      obtain ⟨v, ev, rp⟩ := atI_map ra ed
      exact .inl ⟨p, vs, _, v, rfl, h'.int, hs, ev, post_d q rp⟩
    · cases e
  · split at e
    · rename_i d ed
      cases e
      obtain ⟨p, vs, rfl, hs, ra⟩ := h.tup
      obtain ⟨v, ev, rp⟩ := atI_map ra ed
      exact .inr (.inl ⟨p, vs, _, v, rfl, h'.int, SqT.of (hx _ _ hs), ev, post_d q rp⟩)
    · cases e
  · split at e
    · rename_i hl
      split at e
      · rename_i c ec
        cases e
        exact .inr (.inr ⟨_, _, c, h.str, h'.int, sz16 hl, ec, post_str q⟩)
      · cases e
    · cases e
  · cases e
/-! ### built-in functions -/
def rLenV (K : Fg) : V → Hp → VK → Prop := fun v H Q => (∃ p ys, v = .ref p ∧ (SqL K H p ys ∨ SqT K H p ys) ∧ Q (.int ys.length) H) ∨ (∃ z, v = .str z ∧ z.length ≤ sizeLine ∧ Q (.int z.length) H) ∨ ∃ a kvs, v = .ref a ∧ H a = some (.dK kvs) ∧ Q (.int kvs.length) H
theorem call_lenV : CallR X (.builtin "len") (fun xs H Q => ∃ v, xs = [v] ∧ rLenV X.K v H Q) := by
  intro pins s σ H xs us Q I r h
  obtain ⟨v, rfl, h⟩ := h
  rcases h with ⟨p, ys, rfl, h1, h2⟩ | ⟨z, rfl, h1, h2⟩ | ⟨a, kvs, rfl, h1, h2⟩
  · exact call_len_seq pins s σ H _ us Q I r ⟨p, ys, rfl, h1, h2⟩
  · exact call_len_str pins s σ H _ us Q I r ⟨z, rfl, h1, h2⟩
  · exact call_lenD pins s σ H _ us Q I r ⟨a, kvs, rfl, h1, h2⟩
def opLen : Od → Option Rv
  | .d (.list ds) => some (.d (.int ds.length))
  | .d (.tuple ds) => some (.d (.int ds.length))
  | .d (.dict es) => if isTag es = true then none else some (.d (.int es.length))
  | .d (.str z) => if z.length ≤ 16000000 then some (.d (.int z.length)) else none
  | .c (.k kvs) => some (.d (.int kvs.length))
  | _ => none
theorem rpKv_len {K : Fg} {G : Hp} : ∀ {ws : List (L2.Key × V)} {es : List (D × D)}, RpKv K G ws es → ws.length = es.length
  | _, _, .nil => rfl
  | _, _, .cons _ t => congrArg (· + 1) (rpKv_len t)
theorem s_len {K : Fg} : Op1S K (fun v H Q => ∃ v', [v] = [v'] ∧ rLenV K v' H Q) opLen := by
  intro w x o rv Q hx h e q
  refine ⟨x, rfl, ?_⟩
  unfold opLen at e
  split at e
  · cases e
    obtain ⟨p, vs, rfl, hs, ra⟩ := h.list hx
    exact .inl ⟨p, vs, rfl, .inl hs, by rw [ra.length]; exact post_int q⟩
  · cases e
    obtain ⟨p, vs, rfl, hs, ra⟩ := h.tup
    exact .inl ⟨p, vs, rfl, .inr (SqT.of (hx _ _ hs)), by rw [ra.length]; exact post_int q⟩
  · split at e
    · cases e
    · rename_i nt
      cases e
      obtain ⟨p, ws, rfl, hs, ra⟩ := h.dict hx (by simpa using nt)
      exact .inr (.inr ⟨p, ws, rfl, hs, by rw [rpKv_len ra]; exact post_int q⟩)
  · split at e
    · rename_i hl
      cases e
      exact .inr (.inl ⟨_, h.str, sz16 hl, post_int q⟩)
    · cases e
  · cases e
    obtain ⟨p, rfl, ⟨_, ws, hw, ra⟩, _⟩ := h
    exact .inr (.inr ⟨p, ws, rfl, hw, by rw [paired_len ra]; exact post_int q⟩)
  · cases e
def opAbs : Od → Option Rv
  | .d (.int i) => some (.d (.int (if i < 0 then -i else i)))
  | _ => none
theorem s_abs {K : Fg} : Op1S K (fun v H Q => ∃ i, [v] = [V.int i] ∧ Q (.int (if i < 0 then -i else i)) H) opAbs := by
  intro w x o rv Q hx h e q
  unfold opAbs at e
  split at e
  · cases e
    exact ⟨_, by rw [h.int], post_int q⟩
  · cases e
/-- isinstance(x, T) of a built-in class -/
def tyN : Od → String
  | .d .none => "NoneType"
  | .d (.bool _) => "bool"
  | .d (.int _) => "int"
  | .d (.str _) => "str"
  | .d (.list _) => "list"
  | .d (.tuple _) => "tuple"
  | .d (.dict _) => "dict"
  | .c _ => "dict"
def isiB (T : String) (t : String) : Bool := t == T || (t == "bool" && T == "int")
def opIsi (T : String) (o : Od) : Option Rv := match o with
  | .c .gone => none
  | .c (.l _) => none
  | .c (.i _ _ _) => none
  | .c (.g _) => none
  | o => some (.d (.bool (isiB T (tyN o))))
/-- a value's type, a locked dict with tuple keys too -/
inductive TyY (K : Fg) (H : Hp) : V → Value → Prop where
  | x {v : V} {t : Value} (h : TyX K H v t) : TyY K H v t
  | t {a : Addr} {o : Obj} {kvs : List (List L2.Key × V)} (e : H a = some (.frz o (.dT kvs))) : TyY K H (.ref a) (.type "dict")
  | n {a : Addr} {o : Obj} {kas : List (NestedKey × Addr × V)} (e : H a = some (.frz o (NkO kas a))) : TyY K H (.ref a) (.type "dict")
  | f {a : Addr} {o : Obj} {kvs : List (L2.Key × V)} (e : H a = some (.frz o (.dK kvs))) : TyY K H (.ref a) (.type "dict")
theorem kit_ofY {X : Cx} {pins : List (Addr × Obj)} {σ : L2.St} {H : Hp} {s : Shared} {x : V} {u t : Value} (I : Inv X pins σ H s) (rx : RelV x u) (ty : TyY X.K H x t) : ∃ P : Heap → Prop, PySem.W.KitX X.K u t P ∧ P s.heap ∧ u ≠ .builtin "__main__.__loader__#opaque" := by
  cases ty with
  | x h => exact kit_of I rx h
  | @t a ob kvs ea =>
    cases (show u = Value.ref a from rx)
    obtain ⟨_, _, _, vs, _, o, es, ep, h1, h2, _⟩ := (show ObjOk X.prog X.w H s.heap a (.frz ob (.dT kvs)) from I.hok a _ ea)
    exact ⟨_, PySem.W.kitx_dict, ⟨o, h1, h2.1⟩, fun z => nomatch z⟩
  | @n a ob kas ea =>
    cases (show u = Value.ref a from rx)
    obtain ⟨h0, ⟨o, es, ep, xs, h1, h2, _⟩, _⟩ := (show ObjOk X.prog X.w H s.heap a (.frz ob (NkO kas a)) from I.hok a _ ea)
    exact ⟨_, PySem.W.kitx_dict, ⟨o, h1, h2.1⟩, fun z => nomatch z⟩
  | @f a ob kvs ea =>
    cases (show u = Value.ref a from rx)
    obtain ⟨_, _, _, vs, _, o, es, ep, h1, h2, _⟩ := (show ObjOk X.prog X.w H s.heap a (.frz ob (.dK kvs)) from I.hok a _ ea)
    exact ⟨_, PySem.W.kitx_dict, ⟨o, h1, h2.1⟩, fun z => nomatch z⟩
def rIsiY (K : PySem.W.Frag) : List V → Hp → VK → Prop := fun xs H Q => ∃ (x c : V) (t u : Value) (b : Bool), xs = [x, c] ∧ ClsV c u ∧ TyY K H x t ∧ PySem.W.kitOne K t u = some b ∧ Q (.bl b) H
theorem call_isiY {X : Cx} : CallR X (.builtin "isinstance") (rIsiY X.K) := by
  intro pins s σ H xs us Q I r h
  obtain ⟨x, c, t, u, b, rfl, k, ty, e, q⟩ := h
  obtain ⟨u1, u2, rfl, r1, r2⟩ := vals2 r
  have e2 := k.eq r2
  subst e2
  obtain ⟨P, Z, p, hx⟩ := kit_ofY I r1 ty
  exact PySem.W.kia_one Z I.kIn p e hx fun tk => ⟨.bl b, H, I.tok tk, rfl, q⟩
theorem ty_of {K : Fg} {w : Wd} {x : V} {o : Od} (hx : Same w.G w.H) (h : OdOk K w x o) (h1 : o ≠ .c .gone) (h2 : ∀ l, o ≠ .c (.l l)) (h3 : ∀ n j l, o ≠ .c (.i n j l)) (h4 : ∀ x, o ≠ .c (.g x)) : TyY K w.H x (.type (tyN o)) := by
  cases o with
  | c c =>
    obtain ⟨p, rfl, hc, _⟩ := h
    cases c with
    | l l => exact absurd rfl (h2 l)
    | gone => exact absurd rfl h1
    | k kvs =>
      obtain ⟨_, ws, hw, _⟩ := hc
      exact .x (.base (.dK hw))
    | t kvs =>
      obtain ⟨_, ws, hw, _⟩ := hc
      exact .x (.base (.dT hw))
    | r ks =>
      obtain ⟨_, ws, hw, _⟩ := hc
      exact .x (.base (.dT hw))
    | i n j l => exact absurd rfl (h3 n j l)
    | g x => exact absurd rfl (h4 x)
  | d d =>
    cases d with
    | none => rw [h.none]; exact .x (.base .non)
    | bool b => rw [h.bool]; exact .x (.base (.bl b))
    | int b => rw [h.int]; exact .x (.base (.int b))
    | str b => rw [h.str]; exact .x (.base (.str b))
    | list ds =>
      obtain ⟨p, vs, rfl, hs, _⟩ := h.list hx
      rcases hs with (hs | ⟨o, hs⟩) | ⟨o, its, n, hk, hc, _⟩
      · exact .x (.base (.lst hs))
      · exact .x (.base (.frz hs))
      · exact .x (.kList hk hc)
    | tuple ds =>
      obtain ⟨p, vs, rfl, hs, _⟩ := h.tup
      exact .x (.base (.tup (hx _ _ hs)))
    | dict es =>
      rcases h with h | ⟨p, vs, ds, rfl, e, hv, ra⟩
      · cases h with
        | dct a b => exact .x (.base (.dK (hx _ _ a)))
        | dctT a b => exact .t (hx _ _ a)
        | dctN a g b => exact .n (hx _ _ a)
        | dctF a b => exact .f (hx _ _ a)
      · cases e
def isiT (T : String) : Bool := ["NoneType", "bool", "int", "str", "list", "tuple", "dict"].all fun t => decide (kitB t T = some (isiB T t))
theorem isiT_ok {T : String} (h : isiT T = true) (o : Od) : kitB (tyN o) T = some (isiB T (tyN o)) := by
  have h := List.all_eq_true.mp h
  have m : tyN o ∈ ["NoneType", "bool", "int", "str", "list", "tuple", "dict"] := by
    unfold tyN
    split <;> simp
  exact of_decide_eq_true (h _ m)
theorem s_isi {K : Fg} {T : String} (hT : isiT T = true) : Op1S K (fun v H Q => rIsiY K [v, .ty T] H Q) (opIsi T) := by
  intro w x o rv Q hx h e q
  unfold opIsi at e
  have go : (o ≠ .c .gone) → (∀ l, o ≠ .c (.l l)) → (∀ n j l, o ≠ .c (.i n j l)) → (∀ x, o ≠ .c (.g x)) → some (Rv.d (.bool (isiB T (tyN o)))) = some rv → rIsiY K [x, .ty T] w.H Q := fun h1 h2 h3 h4 e => by
    cases e
    exact ⟨x, .ty T, .type (tyN o), .type T, isiB T (tyN o), rfl, .ty T, ty_of hx h h1 h2 h3 h4, kit_ty (isiT_ok hT o), post_bool q⟩
  split at e
  · cases e
  · cases e
  · cases e
  · cases e
  · rename_i h1 h2 h3 h4
    exact go h1 h2 h3 h4 e
theorem e_isi {ec : EC} {W : WX} {T : String} {x : Str} {a : Expr} {ca : CE} {p p2 pos : Pos} (hm : X.mg "isinstance" = none) (hT : X.mg x = none) (hv : bootBuiltins x = some (.type T)) (ht : isiT T = true) (ha : Ex X ec W a ca)
    (hg : Gl X "isinstance" := by rfl) (hg2 : Gl X x := by rfl) (hn : x ≠ "__name__" := by decide) (hd : (x == ("__debug__" : Str)) = false := by decide) (h0 : starEach [Expr.Name x p2] X.env = (false, eval (Expr.Name x p2) X.env) :: starEach [] X.env := by rfl)
    (h1 : starEach [a, .Name x p2] X.env = (false, eval a X.env) :: starEach [.Name x p2] X.env := by rfl) (h2 : (backTo pos (starEach [Expr.Name x p2] X.env)).any (·.1) = false := by rfl) : Ex X ec W (.Call (.Name "isinstance" p) [a, .Name x p2] [] pos) (cOp1 (opIsi T) ca) :=
  (pe_callB call_isiY hg hm boot_isinstance (pa_cons ha (pa_cons (pe_bltn (v := .ty T) hg2 hT hv rfl hn hd) pa_nil h0) h1) (by decide) (by decide) h1 h2).imp fun _ _ _ h => op1 (s_isi ht) h
/-- all, any of a list of truths -/
def opAll : Od → Option Rv
  | .d (.list ds) => match bools? ds with
    | some bs => some (.d (.bool (bs.all id)))
    | none => none
  | _ => none
theorem s_all {K : Fg} : Op1S K (fun v => rAll K [v]) opAll := by
  intro w x o rv Q hx h e q
  unfold opAll at e
  split at e
  · split at e
    · rename_i bs eb
      cases e
      rw [bools?_eq eb] at h
      obtain ⟨p, vs, rfl, hs, ra⟩ := h.list hx
      rw [rp_bools ra] at hs
      exact ⟨p, bs, rfl, hs, post_bool q⟩
    · cases e
  · cases e
/-- sum of ints in a list, a tuple -/
def rSumV (K : Fg) : V → Hp → VK → Prop := fun v H Q => ∃ (a : Addr) (ns : List Int), v = V.ref a ∧ (SqL K H a (ns.map V.int) ∨ SqT K H a (ns.map V.int)) ∧ Q (.int ns.sum) H
theorem call_sumV (hc : X.calm = true) : CallR X (.builtin "sum") (fun xs H Q => ∃ v, xs = [v] ∧ rSumV X.K v H Q) := by
  intro pins s σ H vs us Q I r h
  obtain ⟨v, rfl, a, ns, rfl, hs | hs, q⟩ := h
  · exact cr_sum hc pins s σ H _ us Q I r ⟨a, ns, rfl, hs, q⟩
  · obtain ⟨its, rv, hl, _⟩ := I.tuple hs
    rw [Vals.ref1 r]
    obtain ⟨xs, hx⟩ := rv.ints.allInts.items
    have hl : s.heap.IsTuple a its.toArray := hl
    have hn : numsOf its.toArray.toList = ns := by rw [show its.toArray.toList = its from rfl, rv.ints.numsOf]
    rw [hx] at hl hn
    rw [nums_intItems] at hn
    refine ktm_sumG (I.ok.hd hc) hl fun h' tk t' hk => ?_
    rw [preSum_eq, List.take_of_length_le (by simp), hn]
    exact ⟨.int _, H, I.kept hk, ⟨_, rfl⟩, q⟩
def opSum : Od → Option Rv
  | .d (.list ds) => match ints? ds with
    | some ns => some (.d (.int ns.sum))
    | none => none
  | .d (.tuple ds) => match ints? ds with
    | some ns => some (.d (.int ns.sum))
    | none => none
  | _ => none
theorem s_sum {K : Fg} : Op1S K (fun v H Q => ∃ v', [v] = [v'] ∧ rSumV K v' H Q) opSum := by
  intro w x o rv Q hx h e q
  refine ⟨x, rfl, ?_⟩
  unfold opSum at e
  split at e
  · split at e
    · rename_i bs eb
      cases e
      rw [ints?_eq eb] at h
      obtain ⟨p, vs, rfl, hs, ra⟩ := h.list hx
      rw [rp_ints ra] at hs
      exact ⟨p, bs, rfl, .inl hs, post_int q⟩
    · cases e
  · split at e
    · rename_i bs eb
      cases e
      rw [ints?_eq eb] at h
      obtain ⟨p, vs, rfl, hs, ra⟩ := h.tup
      rw [rp_ints ra] at hs
      exact ⟨p, bs, rfl, .inr (SqT.of (hx _ _ hs)), post_int q⟩
    · cases e
  · cases e
/-- tuple(x), list(x) of a list, a tuple -/
def opTuple : Od → Option Rv
  | .d (.list ds) => some (.d (.tuple ds))
  | .d (.tuple ds) => some (.d (.tuple ds))
  | _ => none
theorem s_tuple {K : Fg} : Op1S K (fun v H Q => ∃ p ys, [v] = [V.ref p] ∧ ((SqL K H p ys ∧ ∀ l, H l = none → Q (.ref l) (upd H l (.tup ys))) ∨ (SqT K H p ys ∧ Q (.ref p) H))) opTuple := by
  intro w x o rv Q hx h e q
  unfold opTuple at e
  split at e
  · cases e
    obtain ⟨p, vs, rfl, hs, ra⟩ := h.list hx
    exact ⟨p, vs, rfl, .inl ⟨hs, fun l hl => post_tup q ra hl hx⟩⟩
  · cases e
    obtain ⟨p, vs, rfl, hs, ra⟩ := h.tup
    exact ⟨p, vs, rfl, .inr ⟨SqT.of (hx _ _ hs), post_d q (.tup hs ra)⟩⟩
  · cases e
def opList : Od → Option Rv
  | .d (.list ds) => some (.new (.l ds))
  | .d (.tuple ds) => some (.new (.l ds))
  | _ => none
theorem s_list {K : Fg} : Op1S K (fun v H Q => ∃ p ys, [v] = [V.ref p] ∧ (SqL K H p ys ∨ SqT K H p ys) ∧ ∀ l, H l = none → Q (.ref l) (upd H l (.lst ys))) opList := by
  intro w x o rv Q hx h e q
  unfold opList at e
  split at e
  · cases e
    obtain ⟨p, vs, rfl, hs, ra⟩ := h.list hx
    exact ⟨p, vs, rfl, .inl hs, fun l hl => post_lst q ra hl hx⟩
  · cases e
    obtain ⟨p, vs, rfl, hs, ra⟩ := h.tup
    exact ⟨p, vs, rfl, .inr (SqT.of (hx _ _ hs)), fun l hl => post_lst q ra hl hx⟩
  · cases e
def opInt : Od → Option Rv
  | .d (.int i) => some (.d (.int i))
  | .d (.bool k) => some (.d (.int (if k then 1 else 0)))
  | _ => none
theorem s_int {K : Fg} : Op1S K (fun v H Q => (∃ i, [v] = [V.int i] ∧ Q (.int i) H) ∨ ∃ k, [v] = [V.bl k] ∧ Q (.int (if k then 1 else 0)) H) opInt := by
  intro w x o rv Q hx h e q
  unfold opInt at e
  split at e
  · cases e
    exact .inl ⟨_, by rw [h.int], post_int q⟩
  · cases e
    exact .inr ⟨_, by rw [h.bool], post_int q⟩
  · cases e
def opMax2 : Od → Od → Option Rv
  | .d (.int i), .d (.int j) => some (.d (.int (if j > i then j else i)))
  | _, _ => none
def opMin2 : Od → Od → Option Rv
  | .d (.int i), .d (.int j) => some (.d (.int (if j < i then j else i)))
  | _, _ => none
theorem s_min2 {K : Fg} : Op2S K (fun v u H Q => ∃ i j, [v, u] = [V.int i, V.int j] ∧ Q (.int (if j < i then j else i)) H) opMin2 := by
  intro w x y o o' rv Q hx h h' e q
  unfold opMin2 at e
  split at e
  · cases e
    exact ⟨_, _, by rw [h.int, h'.int], post_int q⟩
  · cases e
end
end Vm
namespace Vm
open PySem L2
/-! ### statements -/
inductive Out where
  | nx (s : S)
  | rt (a : Rv) (s : S)
  | bk (s : S)
  | ct (s : S)
  | ex (e : String) (s : S)
  | bad
abbrev CS := S → Out
def R.out {α : Type} (r : R α) (k : α → S → Out) : Out := match r with
  | .ok a s => k a s
  | .ex e s => .ex e s
  | .bad => .bad
def okX (K : Fg) (ec : EC) (W : WX) (w : Wd) : String → S → Prop := fun e s' => ∀ σ' w', Le w w' → Rel ec K w' σ' s' → W (.ref (ec e)) none σ' w'.H
def OOk (K : Fg) (ec : EC) (W : WX) (D : Ends) (w : Wd) : Out → Prop
  | .nx s' => ∀ σ' w', Le w w' → Rel ec K w' σ' s' → D.nx σ' w'.H
  | .rt a s' => ∀ x σ' w', Le w w' → Rel ec K w' σ' s' → RvOk K w' x a → FrR w x a → D.rt x w'.H
  | .bk s' => ∀ σ' w', Le w w' → Rel ec K w' σ' s' → D.bk σ' w'.H
  | .ct s' => ∀ σ' w', Le w w' → Rel ec K w' σ' s' → D.ct σ' w'.H
  | .ex e s' => okX K ec W w e s'
  | .bad => False
def rdS (K : Fg) (ec : EC) (W : WX) (c : CS) : TS := fun D σ H => ∃ w s, w.H = H ∧ Rel ec K w σ s ∧ OOk K ec W D w (c s)
abbrev Sx (X : Cx) (ec : EC) (W : WX) (st : Stmt) (c : CS) : Prop := PS X st (rdS X.K ec W c)
abbrev Bx (X : Cx) (ec : EC) (W : WX) (st : List Stmt) (c : CS) : Prop := PSs X st (rdS X.K ec W c)
section
variable {K : Fg} {ec : EC} {W : WX} {σ : St} {w w1 : Wd} {s : S} {D : Ends}
theorem okX_le {e : String} {s' : S} (a : Le w w1) (h : okX K ec W w e s') : okX K ec W w1 e s' := fun σ' w' b r => h σ' w' (a.trans b) r
theorem okX_E {e : String} {s' : S} (h : okX K ec W w e s') : okE K ec W σ w e s' := fun w' b r => h σ w' b r
theorem OOk.le {o : Out} (a : Le w w1) (h : OOk K ec W D w o) : OOk K ec W D w1 o := by
  cases o with
  | nx s' => exact fun σ' w' b r => h σ' w' (a.trans b) r
  | rt x s' => exact fun y σ' w' b r o f => h y σ' w' (a.trans b) r o (f.back a b o)
  | bk s' => exact fun σ' w' b r => h σ' w' (a.trans b) r
  | ct s' => exact fun σ' w' b r => h σ' w' (a.trans b) r
  | ex e s' => exact okX_le a h
  | bad => exact h
/-- an expression's run within a statement -/
theorem run_e {c : CE} {k : Rv → S → Out} (hr : Rel ec K w σ s) (h : OOk K ec W D w ((c s).out k)) {Q : VK} (hk : ∀ x w1 s1 a, Le w w1 → Rel ec K w1 σ s1 → RvOk K w1 x a → FrR w x a → OOk K ec W D w (k a s1) → Q x w1.H) : rd K ec W c σ w.H Q := by
  refine ⟨w, s, rfl, hr, ?_⟩
  cases e : c s with
  | bad => rw [e] at h; exact h
  | ex n s' => rw [e] at h; exact okX_E h
  | ok a s' =>
    rw [e] at h
    exact fun x w' le r o f => hk x w' s' a le r o f h
/-- .. of a value that became data, or is a cell -/
theorem run_ev {c : CE} {k : Rv → S → Out} (hr : Rel ec K w σ s) (h : OOk K ec W D w ((cv c s).out k)) {Q : VK} (hk : ∀ x w1 s1 a, Le w w1 → Rel ec K w1 σ s1 → RvOk K w1 x a → (∀ c, a ≠ .new c) → OOk K ec W D w (k a s1) → Q x w1.H) : rd K ec W c σ w.H Q := by
  refine ⟨w, s, rfl, hr, ?_⟩
  unfold cv at h
  cases e : c s with
  | bad => rw [e] at h; exact h
  | ex n s' => rw [e] at h; exact okX_E h
  | ok rv s' =>
    rw [e] at h
    intro x w' le r' ok _
    cases rv with
    | d y => exact hk x w' s' (.d y) le r' ok (by intro c z; cases z) h
    | ref n => exact hk x w' s' (.ref n) le r' ok (by intro c z; cases z) h
    | t b es => exact hk x w' s' (.t b es) le r' ok (by intro c z; cases z) h
    | new cc =>
      cases ed : cc.D? with
      | none =>
        simp only [R.bind, R.out, ed] at h
        exact h.elim
      | some d =>
        simp only [R.bind, R.out, ed] at h
        obtain ⟨G', r2, le2, rp⟩ := freeze r' ok (d := d) ed
        exact hk x ⟨G', w'.r, w'.F, w'.H⟩ s' (.d d) (le.trans le2) r2 rp (by intro c z; cases z) h
theorem run_tS {c : CT} {k : Bool → S → Out} (hr : Rel ec K w σ s) (h : OOk K ec W D w ((c s).out k)) {Q : Bool → Hp → Prop} (hk : ∀ b w1 s1, Le w w1 → Rel ec K w1 σ s1 → OOk K ec W D w (k b s1) → Q b w1.H) : rdT K ec W c σ w.H Q := by
  refine ⟨w, s, rfl, hr, ?_⟩
  cases e : c s with
  | bad => rw [e] at h; exact h
  | ex n s' => rw [e] at h; exact okX_E h
  | ok a s' =>
    rw [e] at h
    exact fun w' le r => hk a w' s' le r h
end
section
variable {X : Cx} {ec : EC} {W : WX}
def cNx : CS := fun s => .nx s
theorem b_nil : Bx X ec W [] cNx := pss_nil.imp fun D σ H h => by
  obtain ⟨w, s, rfl, hr, h⟩ := h
  exact h σ w (Le.refl w) hr
def cBk : CS := fun s => .bk s
def cCt : CS := fun s => .ct s
def cSeq (a b : CS) : CS := fun s => match a s with
  | .nx s1 => b s1
  | o => o
theorem b_cons {st : Stmt} {r : List Stmt} {a b : CS} (ha : Sx X ec W st a) (hb : Bx X ec W r b) : Bx X ec W (st :: r) (cSeq a b) := (pss_cons ha hb).imp fun D σ H h => by
  obtain ⟨w, s, rfl, hr, h⟩ := h
  refine ⟨w, s, rfl, hr, ?_⟩
  unfold cSeq at h
  cases e : a s with
  | nx s1 =>
    rw [e] at h
    exact fun σ' w' le r' => ⟨w', s1, rfl, r', h.le le⟩
  | rt x s1 => rw [e] at h; exact h
  | bk s1 => rw [e] at h; exact h
  | ct s1 => rw [e] at h; exact h
  | ex n s1 => rw [e] at h; exact h
  | bad => rw [e] at h; exact h
theorem b_one {st : Stmt} {a : CS} (ha : Sx X ec W st a) : Bx X ec W [st] a := pss_one ha
def cExp (c : CE) : CS := fun s => (c s).out fun _ s1 => .nx s1
theorem s_expr {e : Expr} {c : CE} {pos : Pos} (h : Ex X ec W e c) (hs : swapsWith e none pos.line X.env = pure false := by rfl) : Sx X ec W (.Expr e pos) (cExp c) := (ps_expr h hs).imp fun D σ H h => by
  obtain ⟨w, s, rfl, hr, h⟩ := h
  exact run_e hr h fun x w1 s1 a le r o f h1 => h1 σ w1 le r
def cRet (c : CE) : CS := fun s => (c s).out fun a s1 => .rt a s1
theorem s_ret {e : Expr} {c : CE} {pos : Pos} (h : Ex X ec W e c) : Sx X ec W (.Return (some e) pos) (cRet c) := (ps_ret h).imp fun D σ H h => by
  obtain ⟨w, s, rfl, hr, h⟩ := h
  exact run_e hr h fun x w1 s1 a le r o f h1 => h1 x σ w1 le r o f
def cRetN : CS := fun s => .rt (.d .none) s
def cIfS (t : CT) (a b : CS) : CS := fun s => (t s).out fun x s1 => if x = true then a s1 else b s1
theorem s_if {t : Expr} {a b : List Stmt} {ct : CT} {ca cb : CS} {pos : Pos} (ht : Tx X ec W t ct) (ha : Bx X ec W a ca) (hb : Bx X ec W b cb) : Sx X ec W (.If t a b pos) (cIfS ct ca cb) := (ps_if ht ha hb).imp fun D σ H h => by
  obtain ⟨w, s, rfl, hr, h⟩ := h
  refine run_tS hr h fun x w1 s1 le r h1 => ?_
  cases x with
  | true => exact iteT ⟨w1, s1, rfl, r, h1.le le⟩
  | false => exact iteF ⟨w1, s1, rfl, r, h1.le le⟩
/-! ### storing names -/
theorem Rel.set {K : Fg} {w : Wd} {σ : St} {s : S} (r : Rel ec K w σ s) (i : Nat) {x : V} {sl : Sl} (h : SlOk ec K w (some (some x)) sl) : Rel ec K w (σ.set i (some x)) ⟨s.v.set i sl, s.m⟩ := by
  refine ⟨r.mem, by show (σ.set i (some x)).length = (s.v.set i sl).length; rw [List.length_set, List.length_set, r.len], fun j y e => ?_⟩
  have e : (s.v.set i sl)[j]? = some y := e
  by_cases hj : i = j
  · subst hj
    by_cases hl : i < s.v.length
    · rw [List.getElem?_set_self hl] at e
      cases e
      rw [List.getElem?_set_self (by rw [r.len]; exact hl)]
      exact h
    · rw [List.getElem?_eq_none (by rw [List.length_set]; omega)] at e
      cases e
  · rw [List.getElem?_set_ne hj] at e
    rw [List.getElem?_set_ne hj]
    exact r.slot j y e
def slOf : Rv → Option Sl
  | .d x => some (.d x)
  | .ref n => some (.c n)
  | .t b es => some (.t b es)
  | .new _ => none
theorem slOf_ok {K : Fg} {w : Wd} {x : V} {a : Rv} {sl : Sl} (h : RvOk K w x a) (e : slOf a = some sl) : SlOk ec K w (some (some x)) sl := by
  cases a with
  | d y =>
    cases e
    exact ⟨x, rfl, h⟩
  | ref n =>
    cases e
    obtain ⟨p, rfl, q⟩ := h
    exact ⟨p, rfl, q⟩
  | t b es =>
    cases e
    exact ⟨x, rfl, h⟩
  | new c => cases e
/-- name = e: data, or another name of a cell -/
def cSet (i : Nat) (c : CE) : CS := fun s => (cv c s).out fun a s1 => match slOf a with
  | some sl => .nx ⟨s1.v.set i sl, s1.m⟩
  | none => .bad
theorem rd_set {K : Fg} {σ : St} {H : Hp} {D : Ends} {i : Nat} {c : CE} (h : rdS K ec W (cSet i c) D σ H) : tAsg (rd K ec W c) (gName i) D σ H := by
  obtain ⟨w, s, rfl, hr, h⟩ := h
  refine run_ev hr h fun x w1 s1 a le r o hn h1 => ?_
  cases e : slOf a with
  | none => simp only [e] at h1; exact h1.elim
  | some sl =>
    simp only [e] at h1
    exact h1 _ w1 le (r.set i (slOf_ok o e))
theorem s_set (i : Nat) {x : Str} {e : Expr} {c : CE} {pos' pos : Pos} (hN : X.N.Nodup) (h : Ex X ec W e c) (hi : X.N[i]? = some x := by rfl) (hx : Loc X.env.scope x := by first | exact Or.inl rfl | exact Or.inr rfl) (hs : swapsWith e (some (.Name x pos')) pos.line X.env = pure false := by rfl) (hf : X.fn x = true ∨ X.env.scope.names.lookup x = some .local := by first | exact .inl rfl | exact .inr rfl) :
    Sx X ec W (.Assign [.Name x pos'] e pos) (cSet i c) := (ps_set hN hi hx h hs hf).imp fun D σ H h => rd_set h
/-- name = e, a new mutable object -/
def cSetM (i : Nat) (c : CE) : CS := fun s => (c s).out fun a s1 => match a with
  | .new .gone => .bad
  | .new (.i _ _ _) => .bad
  | .new cell => .nx ⟨s1.v.set i (.c s1.m.length), s1.m ++ [cell]⟩
  | .ref n => .nx ⟨s1.v.set i (.c n), s1.m⟩
  | .t b es => .nx ⟨s1.v.set i (.t b es), s1.m⟩
  | .d _ => .bad
theorem nv_in {w : Wd} {m : List Cell} {p : Addr} {c : Cell} (hl : w.r.length = m.length) (hc : ∀ n j ds, c ≠ .i n j ds) (h : NV ec w m) : NV ec ⟨w.G, w.r ++ [p], w.F, w.H⟩ (m ++ [c]) := by
  refine ⟨fun t q n j ds e1 e2 => ?_, h.2⟩
  have e1 : (w.r ++ [p])[t]? = some q := e1
  by_cases ht : t < m.length
  · rw [List.getElem?_append_left ht] at e2
    rw [List.getElem?_append_left (by omega)] at e1
    obtain ⟨h1, h2⟩ := h.1 t q n j ds e1 e2
    refine ⟨h1, fun p' ks e3 e4 => ?_⟩
    have e3 : (w.r ++ [p])[n]? = some p' := e3
    rw [List.getElem?_append_left (by omega)] at e3
    rw [List.getElem?_append_left (by omega)] at e4
    exact h2 p' ks e3 e4
  · rw [List.getElem?_append_right (by omega)] at e2
    cases hk : t - m.length with
    | zero =>
      rw [hk] at e2
      exact absurd (Option.some.inj e2) (hc n j ds)
    | succ k =>
      rw [hk] at e2
      cases e2
theorem nv_out {w : Wd} {m : List Cell} {n : Nat} {G : Hp} (h : NV ec w m) : NV ec ⟨G, w.r, w.F, w.H⟩ (m.set n .gone) := by
  refine ⟨fun t q n0 j ds e1 e2 => ?_, h.2⟩
  have ne : n ≠ t := fun z => by
    subst z
    rw [List.getElem?_set] at e2
    split at e2
    · split at e2 <;> cases e2
    · exact absurd rfl ‹_›
  rw [List.getElem?_set_ne ne] at e2
  obtain ⟨h1, h2⟩ := h.1 t q n0 j ds e1 e2
  refine ⟨h1, fun p ks e3 e4 => ?_⟩
  have ne2 : n ≠ n0 := fun z => by
    subst z
    rw [List.getElem?_set] at e4
    split at e4
    · split at e4 <;> cases e4
    · exact absurd rfl ‹_›
  rw [List.getElem?_set_ne ne2] at e4
  exact h2 p ks e3 e4
theorem cell_in {K : Fg} {w w1 : Wd} {σ : St} {s : S} {p : Addr} {c : Cell} (hg : c ≠ .gone) (hni : ∀ n j ds, c ≠ .i n j ds) (i0 : Le ec.w (w.f ec.w.F)) (le : Le w w1) (r : Rel ec K w1 σ s) (hp : p ∉ w1.r ∧ ¬ w1.F p) (hf : w.H p = none) (hc : COk K w1.G w1.H p c) :
    Rel ec K ⟨w1.G, w1.r ++ [p], w1.F, w1.H⟩ σ ⟨s.v, s.m ++ [c]⟩ ∧ Le w ⟨w1.G, w1.r ++ [p], w1.F, w1.H⟩ := by
  have l2 : Le w ⟨w1.G, w1.r ++ [p], w1.F, w1.H⟩ := ⟨le.g, le.k, le.p.trans (List.prefix_append _ _), fun q hq => by
    have hq : q ∈ w1.r ++ [p] := hq
    rcases List.mem_append.mp hq with m | m
    · exact le.f q m
    · rw [List.mem_singleton.mp m]
      exact .inr hf, le.s⟩
  refine ⟨⟨⟨r.mem.ext, ?_, ?_, fun n q c' h1 h2 => ?_, fun q hq => ?_, r.mem.tab, i0.trans (l2.ch _), r.mem.gt, nv_in r.mem.len hni r.mem.nv⟩, r.len, fun i sl e => ?_⟩, l2⟩
  · show (w1.r ++ [p]).length = (s.m ++ [c]).length
    rw [List.length_append, List.length_append, r.mem.len]
    rfl
  · show (w1.r ++ [p]).Nodup
    refine List.nodup_append.mpr ⟨r.mem.nd, by simp, fun a ha b hb e => ?_⟩
    rw [List.mem_singleton.mp hb] at e
    exact hp.1 (e ▸ ha)
  · have h1 : (w1.r ++ [p])[n]? = some q := h1
    have h2 : (s.m ++ [c])[n]? = some c' := h2
    by_cases hn : n < w1.r.length
    · rw [List.getElem?_append_left hn] at h1
      rw [List.getElem?_append_left (by rw [← r.mem.len]; exact hn)] at h2
      exact r.mem.cell n q c' h1 h2
    · rw [List.getElem?_append_right (by omega)] at h1
      rw [List.getElem?_append_right (by rw [← r.mem.len]; omega)] at h2
      rw [r.mem.len] at h1
      cases hk : n - s.m.length with
      | zero =>
        rw [hk] at h1 h2
        cases h1
        cases h2
        exact hc
      | succ k =>
        rw [hk] at h1
        cases h1
  · obtain ⟨a, b, c'⟩ := r.mem.fo q hq
    refine ⟨a, fun m => ?_, c'⟩
    have m : q ∈ w1.r ++ [p] := m
    rcases List.mem_append.mp m with m | m
    · exact b m
    · rw [List.mem_singleton.mp m] at hq
      exact hp.2 hq
  · have q := r.slot i sl e
    cases sl with
    | u => trivial
    | d x => exact q
    | c n =>
      obtain ⟨p', e1, e2⟩ := q
      refine ⟨p', e1, ?_⟩
      show (w1.r ++ [p])[n]? = some p'
      rw [List.getElem?_append_left (List.getElem?_eq_some_iff.mp e2).1]
      exact e2
    | f => exact q
    | f2 => exact q
    | t b es =>
      obtain ⟨v, e1, z⟩ := q
      refine ⟨v, e1, z.mono (Same.refl _) fun k p' h => ?_⟩
      show (w1.r ++ [p])[k]? = some p'
      rw [List.getElem?_append_left (List.getElem?_eq_some_iff.mp h).1]
      exact h
    | x n =>
      obtain ⟨z1, a, z2, z3, z4⟩ := q
      refine ⟨z1, a, z2, fun m => ?_, z4⟩
      have m : a ∈ w1.r ++ [p] := m
      rcases List.mem_append.mp m with m | m
      · exact z3 m
      · have ea := List.mem_singleton.mp m
        subst ea
        unfold ExO at z4
        cases c with
        | gone => exact hg rfl
        | l ds =>
          obtain ⟨_, _, hv, _⟩ := hc
          rw [z4] at hv
          cases hv
        | k ds =>
          obtain ⟨_, _, hv, _⟩ := hc
          rw [z4] at hv
          cases hv
        | t ds =>
          obtain ⟨_, _, hv, _⟩ := hc
          rw [z4] at hv
          cases hv
        | r ds =>
          obtain ⟨_, _, hv, _⟩ := hc
          rw [z4] at hv
          cases hv
        | i n' j' ds =>
          obtain ⟨_, _, hv, _⟩ := hc
          rw [z4] at hv
          cases hv
        | g x =>
          obtain ⟨_, o1, hv, q1⟩ := hc
          rw [z4] at hv
          exact q1.noX.2 _ _ (Option.some.inj hv).symm
theorem rd_setM {K : Fg} {σ : St} {H : Hp} {D : Ends} {i : Nat} {c : CE} (h : rdS K ec W (cSetM i c) D σ H) : tAsg (rd K ec W c) (gName i) D σ H := by
  obtain ⟨w, s, rfl, hr, h⟩ := h
  refine run_e hr h fun x w1 s1 a le r o f h1 => ?_
  have go : ∀ cell, a = .new cell → cell ≠ .gone → (∀ n j ds, cell ≠ .i n j ds) → OOk K ec W D w (.nx ⟨s1.v.set i (.c s1.m.length), s1.m ++ [cell]⟩) → D.nx (σ.set i (some x)) w1.H := fun cell ea hg hni h2 => by
    subst ea
    obtain ⟨p, rfl, hp, hc⟩ := o
    obtain ⟨r2, l2⟩ := cell_in hg hni hr.mem.inv le r hp (f _ rfl p rfl) hc
    refine h2 _ ⟨w1.G, w1.r ++ [p], w1.F, w1.H⟩ l2 (r2.set i (x := .ref p) (sl := .c s1.m.length) ⟨p, rfl, ?_⟩)
    show (w1.r ++ [p])[s1.m.length]? = some p
    rw [← r.mem.len, List.getElem?_append_right (Nat.le_refl _), Nat.sub_self]
    rfl
  cases a with
  | d y => exact h1.elim
  | ref n => exact h1 _ w1 le (r.set i (slOf_ok (a := .ref n) o rfl))
  | t b es => exact h1 _ w1 le (r.set i (slOf_ok (a := .t b es) o rfl))
  | new cell =>
    cases cell with
    | gone => exact h1.elim
    | l ds => exact go _ rfl (by intro z; cases z) (by intro _ _ _ z; cases z) h1
    | k ds => exact go _ rfl (by intro z; cases z) (by intro _ _ _ z; cases z) h1
    | t ds => exact go _ rfl (by intro z; cases z) (by intro _ _ _ z; cases z) h1
    | r ds => exact go _ rfl (by intro z; cases z) (by intro _ _ _ z; cases z) h1
    | i n j ds => exact h1.elim
    | g x => exact go _ rfl (by intro z; cases z) (by intro _ _ _ z; cases z) h1
theorem s_setM (i : Nat) {x : Str} {e : Expr} {c : CE} {pos' pos : Pos} (hN : X.N.Nodup) (h : Ex X ec W e c) (hi : X.N[i]? = some x := by rfl) (hx : Loc X.env.scope x := by first | exact Or.inl rfl | exact Or.inr rfl) (hs : swapsWith e (some (.Name x pos')) pos.line X.env = pure false := by rfl) (hf : X.fn x = true ∨ X.env.scope.names.lookup x = some .local := by first | exact .inl rfl | exact .inr rfl) :
    Sx X ec W (.Assign [.Name x pos'] e pos) (cSetM i c) := (ps_set hN hi hx h hs hf).imp fun D σ H h => rd_setM h
/-- a cell's list, read for the last time, becomes data -/
def cFz (i : Nat) : CE := fun s => match s.v[i]? with
  | some (.d x) => .ok (.d x) s
  | some (.c n) => match s.m[n]? with
    | some (.l ds) => .ok (.d (.list ds)) ⟨s.v.set i (.d (.list ds)), s.m.set n .gone⟩
    | some (.k kvs) => .ok (.d (.dict (kvs.map fun p => (kD p.1, p.2)))) ⟨s.v.set i (.d (.dict (kvs.map fun p => (kD p.1, p.2)))), s.m.set n .gone⟩
    | _ => .bad
  | _ => .bad
theorem cell_out {K : Fg} {w : Wd} {σ : St} {s : S} {i n : Nat} {p : Addr} {o : HO} {d : D} (r : Rel ec K w σ s) (hs : σ[i]? = some (some (.ref p))) (hn : w.r[n]? = some p) (hg : w.G p = none) (ho : w.H p = some o) (nb : NoTb o) (hd : ∀ G', Same w.G G' → G' p = some o → Rp K G' (.ref p) d) :
    Rel ec K ⟨upd w.G p o, w.r, w.F, w.H⟩ σ ⟨s.v.set i (.d d), s.m.set n .gone⟩ ∧ Le w ⟨upd w.G p o, w.r, w.F, w.H⟩ ∧ Rp K (upd w.G p o) (.ref p) d := by
  have sg : Same w.G (upd w.G p o) := same_upd hg
  have le : Le w ⟨upd w.G p o, w.r, w.F, w.H⟩ := ⟨sg, fun _ _ e _ => ⟨_, e, fun _ => rfl⟩, List.prefix_refl _, fun _ h => .inl h, rfl⟩
  have rp := hd _ sg upd_same
  refine ⟨⟨⟨fun b u e => ?_, by show w.r.length = (s.m.set n .gone).length; rw [List.length_set]; exact r.mem.len, r.mem.nd, fun k q c h1 h2 => ?_, fun q hq => ?_, r.mem.tab, r.mem.inv.trans (le.ch _), noTG_upd r.mem.gt nb, nv_out r.mem.nv⟩, by show σ.length = (s.v.set i (.d d)).length; rw [List.length_set]; exact r.len, fun j sl e => ?_⟩, le, rp⟩
  · have e : upd w.G p o b = some u := e
    by_cases hb : b = p
    · subst hb
      rw [upd_same] at e
      cases e
      exact ho
    · rw [upd_ne hb] at e
      exact r.mem.ext b u e
  · have h2 : (s.m.set n .gone)[k]? = some c := h2
    by_cases hk : n = k
    · subst hk
      have hl : n < s.m.length := by rw [← r.mem.len]; exact (List.getElem?_eq_some_iff.mp hn).1
      rw [List.getElem?_set_self hl] at h2
      cases h2
      have h1 : w.r[n]? = some q := h1
      rw [hn] at h1
      cases h1
      exact ⟨o, upd_same⟩
    · rw [List.getElem?_set_ne hk] at h2
      have hq : q ≠ p := fun z => hk (nd_ix r.mem.nd hn (z ▸ h1))
      refine cOk_mono sg (fun hc => ?_) (fun _ _ e => e) (r.mem.cell k q c h1 h2)
      show upd w.G p o q = none
      rw [upd_ne hq]
      have c0 := r.mem.cell k q c h1 h2
      cases c with
      | l ds => exact c0.1
      | k kvs => exact c0.1
      | t kvs => exact c0.1
      | r ks => exact c0.1
      | i n j ds => exact c0.1
      | g x => exact c0.1
      | gone => exact absurd rfl hc
  · obtain ⟨a, b, c⟩ := r.mem.fo q hq
    refine ⟨?_, b, c⟩
    show upd w.G p o q = none
    have hne : q ≠ p := by
      intro z
      subst z
      exact b (List.mem_of_getElem? hn)
    rw [upd_ne hne]
    exact a
  · have e : (s.v.set i (.d d))[j]? = some sl := e
    by_cases hj : i = j
    · subst hj
      have hl : i < s.v.length := by rw [← r.len]; exact (List.getElem?_eq_some_iff.mp hs).1
      rw [List.getElem?_set_self hl] at e
      cases e
      exact ⟨.ref p, hs, rp⟩
    · rw [List.getElem?_set_ne hj] at e
      exact slOk_mono le (r.slot j sl e)
theorem e_fz (i : Nat) {x : Str} {pos : Pos} (hN : X.N[i]? = some x := by rfl) (hv : Vis X.env.scope x := by first | exact Or.inl rfl | exact Or.inr (Or.inl rfl) | exact Or.inr (Or.inr rfl)) (hd : (x == ("__debug__" : Str)) = false := by decide)
    (hcd : (x == ("__classdict__" : Str)) = false := by decide) : Ex X ec W (.Name x pos) (cFz i) := (pe_var hN hv hd hcd).imp fun σ H Q h => by
  obtain ⟨w, s, rfl, hr, h⟩ := h
  unfold cFz at h
  split at h
  · rename_i y e
    obtain ⟨v, e2, rp⟩ := hr.slot i _ e
    exact ⟨v, e2, h v w (Le.refl w) hr rp .d⟩
  · rename_i n e
    obtain ⟨p, e2, rp⟩ := hr.slot i _ e
    refine ⟨.ref p, e2, ?_⟩
    split at h
    · rename_i ds ec'
      obtain ⟨hg, vs, hv, ra⟩ := hr.mem.cell n p _ rp ec'
      obtain ⟨r2, le2, rr⟩ := cell_out (d := .list ds) hr e2 rp hg hv noTb_l fun G' sg e => .lst (SqL.of e) (ra.mono sg)
      exact h (.ref p) ⟨upd w.G p (.lst vs), w.r, w.F, w.H⟩ le2 r2 rr .d
    · rename_i ds ec'
      obtain ⟨hg, vs, hv, ra⟩ := hr.mem.cell n p _ rp ec'
      obtain ⟨r2, le2, rr⟩ := cell_out (d := .dict (ds.map fun p => (kD p.1, p.2))) hr e2 rp hg hv noTb_k fun G' sg e => .dct e ((rpKv_of ra).mono sg)
      exact h (.ref p) ⟨upd w.G p (.dK vs), w.r, w.F, w.H⟩ le2 r2 rr .d
    · exact h.elim
  · exact h.elim
/-! ### targets -/
/-- slots but those at own are as they were -/
def Off (own : List Nat) (σ σ' : St) : Prop := σ'.length = σ.length ∧ ∀ j, j ∉ own → σ'[j]? = σ[j]?
theorem Off.refl (own : List Nat) (σ : St) : Off own σ σ := ⟨rfl, fun _ _ => rfl⟩
theorem Off.trans {own : List Nat} {σ σ1 σ2 : St} (a : Off own σ σ1) (b : Off own σ1 σ2) : Off own σ σ2 := ⟨b.1.trans a.1, fun j h => (b.2 j h).trans (a.2 j h)⟩
abbrev Tg := D → S → Option S
abbrev Tgs := List D → S → Option S
def rdG (ec : EC) (K : Fg) (own : List Nat) (tg : Tg) : TG := fun v σ H Q => ∃ w s d, w.H = H ∧ Rel ec K w σ s ∧ Rp K w.G v d ∧ ∃ s', tg d s = some s' ∧ ∀ σ', Off own σ σ' → Rel ec K w σ' s' → Q σ' H
def rdGs (ec : EC) (K : Fg) (own : List Nat) (tg : Tgs) : TGs := fun vs σ H Q => ∃ w s ds, w.H = H ∧ Rel ec K w σ s ∧ RpAll K w.G vs ds ∧ ∃ s', tg ds s = some s' ∧ ∀ σ', Off own σ σ' → Rel ec K w σ' s' → Q σ' H
theorem PG.imp {X : Cx} {e : Expr} {t t' : TG} (h : PG X e t) (i : ∀ v σ H Q, t' v σ H Q → t v σ H Q) : PG X e t' := ⟨fun pins s σ H v u Q I r q => h.run pins s σ H v u Q I r (i _ _ _ _ q)⟩
theorem PGs.imp {X : Cx} {es : List Expr} {t t' : TGs} (h : PGs X es t) (i : ∀ v σ H Q, t' v σ H Q → t v σ H Q) : PGs X es t' := ⟨fun pins s σ H v u Q I r q => h.run pins s σ H v u Q I r (i _ _ _ _ q)⟩
def tgN (i : Nat) : Tg := fun d s => some ⟨s.v.set i (.d d), s.m⟩
theorem g_name (i : Nat) {own : List Nat} {x : Str} {pos : Pos} (hN : X.N.Nodup) (ho : i ∈ own) (hi : X.N[i]? = some x := by rfl) (hx : Loc X.env.scope x := by first | exact Or.inl rfl | exact Or.inr rfl) (hf : X.fn x = true ∨ X.env.scope.names.lookup x = some .local := by first | exact .inl rfl | exact .inr rfl) : PG X (.Name x pos) (rdG ec X.K own (tgN i)) :=
  PG.imp (pg_name hN hi hx hf) fun v σ H Q h => by
    obtain ⟨w, s, d, rfl, hr, rp, s', e, q⟩ := h
    cases e
    exact q _ ⟨List.length_set, fun j hj => List.getElem?_set_ne fun z => hj (by rw [← z]; exact ho)⟩ (hr.set i ⟨v, rfl, rp⟩)
def tgNil : Tgs := fun ds s => match ds with
  | [] => some s
  | _ => none
def tgCons (t : Tg) (u : Tgs) : Tgs := fun ds s => match ds with
  | [] => none
  | d :: ds => match t d s with
    | some s1 => u ds s1
    | none => none
def tgTup (n : Nat) (t : Tgs) : Tg := fun d s => match d with
  | .tuple ds => if ds.length = n then t ds s else none
  | _ => none
theorem gs_nil {own : List Nat} : PGs X [] (rdGs ec X.K own tgNil) := PGs.imp pgs_nil fun vs σ H Q h => by
  obtain ⟨w, s, ds, rfl, hr, rp, s', e, q⟩ := h
  cases rp with
  | nil =>
    cases e
    exact ⟨rfl, q σ (Off.refl _ _) hr⟩
  | cons _ _ => cases e
theorem gs_cons {own : List Nat} {e : Expr} {es : List Expr} {t : Tg} {u : Tgs} (h1 : PG X e (rdG ec X.K own t)) (h2 : PGs X es (rdGs ec X.K own u)) (hs : (assignEach (e :: es) X.env).map (·.2) = assign e X.env :: (assignEach es X.env).map (·.2) := by rfl) : PGs X (e :: es) (rdGs ec X.K own (tgCons t u)) :=
  PGs.imp (pgs_cons h1 h2 hs) fun vs σ H Q h => by
    obtain ⟨w, s, ds, rfl, hr, rp, s', e, q⟩ := h
    cases rp with
    | nil => cases e
    | cons r1 r2 =>
      rename_i v vs d ds
      unfold tgCons at e
      dsimp only at e
      cases e1 : t d s with
      | none => rw [e1] at e; cases e
      | some s1 =>
        rw [e1] at e
        exact ⟨v, vs, rfl, w, s, d, rfl, hr, r1, s1, e1, fun σ1 o1 r1' => ⟨w, s1, ds, rfl, r1', r2, s', e, fun σ2 o2 r2' => q σ2 (o1.trans o2) r2'⟩⟩
theorem g_tup {own : List Nat} {es : List Expr} {k n : Nat} {t : Tgs} {pos : Pos} (h : PGs X es (rdGs ec X.K own t)) (hcal : X.calm = true := by rfl) (hn : (assignEach es X.env).length = n := by rfl) (hst : (assignEach es X.env).findIdx? (·.1) = none := by rfl) : PG X (.Tuple es k pos) (rdG ec X.K own (tgTup n t)) :=
  PG.imp (pg_tup hcal h hn hst) fun v σ H Q h => by
    obtain ⟨w, s, d, rfl, hr, rp, s', e, q⟩ := h
    unfold tgTup at e
    split at e
    · rename_i ds
      cases rp with
      | tup hs ra =>
        split at e
        · rename_i hl
          exact ⟨_, _, rfl, SqT.of (hr.mem.ext _ _ hs), by rw [ra.length]; exact hl, w, s, ds, rfl, hr, ra, s', e, q⟩
        · cases e
    · cases e
/-- target = e -/
def cAsg (tg : Tg) (c : CE) : CS := fun s => (cv c s).out fun a s1 => match a with
  | .d d => match tg d s1 with
    | some s2 => .nx s2
    | none => .bad
  | _ => .bad
theorem s_asg {own : List Nat} {tg e : Expr} {t : Tg} {c : CE} {pos : Pos} (he : Ex X ec W e c) (hg : PG X tg (rdG ec X.K own t)) (hs : swapsWithSole [tg] e pos.line X.env = pure false := by rfl) (hw : swappedStores [tg] e X.env = pure none := by rfl) (h1 : (assignEach [tg] X.env).map (·.2) = [assign tg X.env] := by rfl) :
    Sx X ec W (.Assign [tg] e pos) (cAsg t c) := (ps_asg he hg hs hw h1).imp fun D σ H h => by
  obtain ⟨w, s, rfl, hr, h⟩ := h
  refine run_ev hr h fun x w1 s1 a le r o hn h1 => ?_
  cases a with
  | ref n => exact h1.elim
  | t _ _ => exact h1.elim
  | new c => exact h1.elim
  | d d =>
    cases e1 : t d s1 with
    | none => simp only [e1] at h1; exact h1.elim
    | some s2 =>
      simp only [e1] at h1
      exact ⟨w1, s1, d, rfl, r, o, s2, e1, fun σ' _ r' => h1 σ' w1 le r'⟩
/-- a, b = x, y -/
def cPar (i j : Nat) (a b : CE) : CS := fun s => (cv a s).out fun x s1 => (cv b s1).out fun y s2 => match slOf x, slOf y with
  | some p, some q => .nx ⟨(s2.v.set i p).set j q, s2.m⟩
  | _, _ => .bad
theorem s_par (i j : Nat) {x y : Str} {a b : Expr} {ca cb : CE} {px py pt pos : Pos} {kt k2 pt2} (hN : X.N.Nodup) (ha : Ex X ec W a ca) (hb : Ex X ec W b cb) (hij : i ≠ j) (hcal : X.calm = true := by rfl) (hi : X.N[i]? = some x := by rfl) (hj : X.N[j]? = some y := by rfl)
    (hx : X.env.scope.names.lookup x = some .local := by rfl) (hy : X.env.scope.names.lookup y = some .local := by rfl) (hw : swappedStores [.Tuple [.Name x px, .Name y py] kt pt] (.Tuple [a, b] k2 pt2) X.env = pure (some [x, y]) := by rfl)
    (hs : swapsWithSole [.Tuple [.Name x px, .Name y py] kt pt] (.Tuple [a, b] k2 pt2) pos.line X.env = pure false := by rfl) (h0 : starEach [b] X.env = (false, eval b X.env) :: starEach [] X.env := by rfl) (h1 : starEach [a, b] X.env = (false, eval a X.env) :: starEach [b] X.env := by rfl) :
    Sx X ec W (.Assign [.Tuple [.Name x px, .Name y py] kt pt] (.Tuple [a, b] k2 pt2) pos) (cPar i j ca cb) := (ps_par hcal hN hi hj hij hx hy (pa_cons ha (pa_cons hb pa_nil h0) h1) hw hs).imp fun D σ H h => by
  obtain ⟨w, s, rfl, hr, h⟩ := h
  refine run_ev hr h fun v w1 s1 p le r o hn h1 => ?_
  refine run_ev r (h1.le le) fun u w2 s2 q le2 r2 o2 hn2 h2 => ?_
  cases e1 : slOf p with
  | none => simp only [e1] at h2; exact h2.elim
  | some sp =>
    cases e2 : slOf q with
    | none => simp only [e1, e2] at h2; exact h2.elim
    | some sq =>
      simp only [e1, e2] at h2
      exact ⟨v, u, rfl, h2 _ w2 le2 ((r2.set i (slOf_ok (o.le hn le2) e1)).set j (slOf_ok o2 e2))⟩
/-! ### what is walked -/
abbrev CI := S → R (List D)
def ItOk (K : Fg) (w : Wd) (J : It) (ds : List D) : Prop := ∀ w1, Le w w1 → Same w1.G w1.H → ∀ i, (∀ d, ds[i]? = some d → J.go i w1.H ∧ ∀ x H', J.yld i w1.H x H' → ∃ w2, Gr w1 w2 ∧ w2.H = H' ∧ Rp K w2.G x d) ∧ (ds.length ≤ i → J.stop i w1.H)
theorem ItOk.le {K : Fg} {w w1 : Wd} {J : It} {ds : List D} (a : Le w w1) (h : ItOk K w J ds) : ItOk K w1 J ds := fun w2 b => h w2 (a.trans b)
def rdI (K : Fg) (ec : EC) (W : WX) (c : CI) : TI := fun σ H R => ∃ w s, w.H = H ∧ Rel ec K w σ s ∧ Res (fun ds s' => ∀ J w', Le w w' → Rel ec K w' σ s' → ItOk K w' J ds → R J w'.H) (okE K ec W σ w) (c s)
abbrev Ix (X : Cx) (ec : EC) (W : WX) (tg iter : Expr) (c : CI) : Prop := PI X tg iter (rdI X.K ec W c)
theorem PI.imp {X : Cx} {tg iter : Expr} {t t' : TI} (h : PI X tg iter t) (i : ∀ σ H R, t' σ H R → t σ H R) : PI X tg iter t' := ⟨fun pins s σ H R I q => h.run pins s σ H R I (i _ _ _ q)⟩
/-- a list or a tuple of any kind -/
def iSeq (K : Fg) (tl : TE) : TI := fun σ H R => tl σ H fun x H1 => ∃ a, x = .ref a ∧ ((∃ xs, SqL K H1 a xs ∧ R (Itl K a) H1) ∨ ∃ xs, SqT K H1 a xs ∧ R (Itt K a) H1)
theorem pi_seq {tg l : Expr} {tl : TE} (hl : PE X l tl) : PI X tg l (iSeq X.K tl) := by
  refine ⟨fun pins s σ H R I h => ?_⟩
  refine thn (hl.run pins s σ H _ I h) fun v s1 ⟨x, H1, I1, r1, q1⟩ => ?_
  obtain ⟨a, e, hq⟩ := q1
  subst e
  cases r1
  rcases hq with ⟨xs, hq, q⟩ | ⟨xs, hq, q⟩
  · obtain ⟨its, rv, p, hz⟩ := I1.list hq
    refine wpAny_pyIter_list p.isList ?_
    refine ⟨s1.heap.objs.size, [s1.heap.objs.size], _, _, H1, rfl, I1.kept (t' := s1.toks) fun b o e => Heap.get?_push_of_some _ e, turn_list a _, ⟨_, Heap.get?_push_size _ rfl, rfl, rfl⟩, fun b hb => ?_, q⟩
    have e : b = s1.heap.objs.size := by simpa using hb
    subst e
    exact I1.fpOk (Nat.le_refl _) (I1.hok.fresh (Nat.le_refl _))
  · obtain ⟨its, rv, p, hz⟩ := I1.tuple hq
    refine wpAny_pyIter_tuple (show s1.heap.IsTuple a its.toArray from p) ?_
    refine ⟨s1.heap.objs.size, [s1.heap.objs.size], _, _, H1, rfl, I1.kept (t' := s1.toks) fun b o e => Heap.get?_push_of_some _ e, turn_tuple a _, ⟨_, Heap.get?_push_size _ rfl, rfl, rfl⟩, fun b hb => ?_, q⟩
    have e : b = s1.heap.objs.size := by simpa using hb
    subst e
    exact I1.fpOk (Nat.le_refl _) (I1.hok.fresh (Nat.le_refl _))
def ciSeq (c : CE) : CI := fun s => (cv c s).bind fun a s1 => match a with
  | .d (.list ds) => .ok ds s1
  | .d (.tuple ds) => .ok ds s1
  | _ => .bad
theorem i_seq {tg l : Expr} {c : CE} (h : Ex X ec W l c) : Ix X ec W tg l (ciSeq c) := PI.imp (pi_seq h) fun σ H R h => by
  obtain ⟨w, s, rfl, hr, h⟩ := h
  refine run_cv hr h fun x w1 s1 a le1 hr1 ha hn h1 => ?_
  cases a with
  | ref n => exact h1.elim
  | t _ _ => exact h1.elim
  | new c => exact h1.elim
  | d y =>
    have ha : Rp X.K w1.G x y := ha
    cases y with
    | list ds =>
      cases ha with
      | lst hs ra =>
        refine ⟨_, rfl, .inl ⟨_, hr1.mem.ext.seq hs, h1 _ w1 le1 hr1 fun w2 le2 e2 i => ⟨fun d hd => ?_, fun hl => ⟨_, e2.seq (le2.g.seq hs), by rw [ra.length]; exact hl⟩⟩⟩⟩
        obtain ⟨v, ev, rp⟩ := ra.get hd
        refine ⟨⟨_, v, e2.seq (le2.g.seq hs), ev⟩, fun x H' hy => ⟨w2, Gr.refl w2, hy.1.symm, ?_⟩⟩
        have := hy.2 _ (e2.seq (le2.g.seq hs))
        rw [ev] at this
        cases this
        exact rp.mono le2.g
    | tuple ds =>
      cases ha with
      | tup hs ra =>
        refine ⟨_, rfl, .inr ⟨_, SqT.of (hr1.mem.ext _ _ hs), h1 _ w1 le1 hr1 fun w2 le2 e2 i => ⟨fun d hd => ?_, fun hl => ⟨_, SqT.of (e2 _ _ (le2.g _ _ hs)), by rw [ra.length]; exact hl⟩⟩⟩⟩
        obtain ⟨v, ev, rp⟩ := ra.get hd
        refine ⟨⟨_, v, SqT.of (e2 _ _ (le2.g _ _ hs)), ev⟩, fun x H' hy => ⟨w2, Gr.refl w2, hy.1.symm, ?_⟩⟩
        have := hy.2 _ (SqT.of (e2 _ _ (le2.g _ _ hs)))
        rw [ev] at this
        cases this
        exact rp.mono le2.g
    | none => exact h1.elim
    | bool _ => exact h1.elim
    | int _ => exact h1.elim
    | str _ => exact h1.elim
    | dict _ => exact h1.elim
/-- lo, lo + 1, .. -/
def rangeD (lo : Int) : Nat → List D
  | 0 => []
  | n + 1 => .int lo :: rangeD (lo + 1) n
theorem rangeD_len (n : Nat) : ∀ lo : Int, (rangeD lo n).length = n := by
  induction n with
  | zero => intro lo; rfl
  | succ n ih => intro lo; show (rangeD (lo + 1) n).length + 1 = n + 1; rw [ih]
theorem rangeD_get : ∀ (n : Nat) (lo : Int) (i : Nat) (d : D), (rangeD lo n)[i]? = some d → i < n ∧ d = .int (lo + i)
  | 0, lo, i, d, h => by simp [rangeD] at h
  | n + 1, lo, 0, d, h => by
    have h : some (PyData.int lo) = some d := h
    cases h
    exact ⟨Nat.succ_pos _, by simp⟩
  | n + 1, lo, i + 1, d, h => by
    obtain ⟨h1, h2⟩ := rangeD_get n (lo + 1) i d h
    refine ⟨by omega, ?_⟩
    rw [h2]
    congr 1
    omega
theorem it_range {K : Fg} {w : Wd} {lo : Int} {n : Nat} : ItOk K w (Itr lo n) (rangeD lo n) := fun w2 le2 e2 i => ⟨fun d hd => by
  obtain ⟨h1, h2⟩ := rangeD_get n lo i d hd
  refine ⟨h1, fun x H' hy => ⟨w2, Gr.refl w2, hy.1.symm, ?_⟩⟩
  rw [hy.2, h2]
  exact .int _, fun hl => by
  rw [rangeD_len] at hl
  exact hl⟩
def small62 (i : Int) : Bool := decide (-(2 ^ 62) ≤ i ∧ i < 2 ^ 62)
def ciR1 (c : CE) : CI := fun s => (cv c s).bind fun a s1 => match a with
  | .d (.int n) => if small62 n = true then .ok (rangeD 0 n.toNat) s1 else .bad
  | _ => .bad
theorem i_range1 {tg a : Expr} {c : CE} {p pos : Pos} (h : Ex X ec W a c) (hm : X.mg "range" = none) (hg : Gl X "range" := by rfl) (hs : starEach [a] X.env = [(false, eval a X.env)] := by rfl) (h0 : starEach [a] X.env = (false, eval a X.env) :: starEach [] X.env := by rfl) : Ix X ec W tg (.Call (.Name "range" p) [a] [] pos) (ciR1 c) :=
  PI.imp (pi_range1 hg hm (pa_cons h pa_nil h0) hs) fun σ H R h => by
    obtain ⟨w, s, rfl, hr, h⟩ := h
    refine run_cv hr h fun x w1 s1 a le1 hr1 ha hn h1 => ?_
    cases a with
    | ref n => exact h1.elim
    | t _ _ => exact h1.elim
    | new c => exact h1.elim
    | d y =>
      have ha : Rp X.K w1.G x y := ha
      cases y with
      | int n =>
        cases ha
        by_cases hq : small62 n = true
        · simp only [hq, if_true] at h1
          have hq := of_decide_eq_true hq
          exact ⟨n, rfl, hq.1, hq.2, h1 _ w1 le1 hr1 it_range⟩
        · simp only [hq] at h1
          exact h1.elim
      | none => exact h1.elim
      | bool _ => exact h1.elim
      | str _ => exact h1.elim
      | list _ => exact h1.elim
      | tuple _ => exact h1.elim
      | dict _ => exact h1.elim
/-! ### loops -/
def forL (tg : Tg) (body : CS) : List D → S → Out
  | [], s => .nx s
  | d :: ds, s => match tg d s with
    | none => .bad
    | some s1 => match body s1 with
      | .nx s2 => forL tg body ds s2
      | .ct s2 => forL tg body ds s2
      | .bk s2 => .nx s2
      | o => o
def cFor (ci : CI) (tg : Tg) (body : CS) : CS := fun s => (ci s).out fun ds s1 => forL tg body ds s1
theorem s_for {own : List Nat} {iter tgt : Expr} {body : List Stmt} {ci : CI} {tg : Tg} {cb : CS} {pos : Pos} (hp : PassesOwn (model X.prog X.w) X.A X.env X.xe) (hi : Ix X ec W tgt iter ci) (hg : PG X tgt (rdG ec X.K own tg)) (hb : Bx X ec W body cb) (hcal : X.calm = true := by rfl)
    (hs : ∀ x, foldedSetIterable iter X.env x = pure x := by intro _; rfl) : Sx X ec W (.For tgt iter body [] pos) (cFor ci tg cb) := (ps_for hp hcal hi hg hb hs).imp fun D σ H h => by
  obtain ⟨w, s, rfl, hr, h⟩ := h
  refine ⟨w, s, rfl, hr, ?_⟩
  unfold cFor at h
  cases e : ci s with
  | bad => rw [e] at h; exact h
  | ex n s' => rw [e] at h; exact okX_E h
  | ok ds s0 =>
    rw [e] at h
    intro J w0 le0 r0 hJ
    refine ⟨fun i m σ1 H1 => ∃ w1 s1, w1.H = H1 ∧ Le w0 w1 ∧ Rel ec X.K w1 σ1 s1 ∧ i + m = ds.length ∧ OOk X.K ec W D w1 (forL tg cb (ds.drop i) s1), ⟨ds.length, w0, s0, rfl, Le.refl _, r0, Nat.zero_add _, OOk.le le0 h⟩, fun i m σ1 H1 hW => ?_⟩
    obtain ⟨w1, s1, rfl, le1, r1, hm, h1⟩ := hW
    obtain ⟨hgo, hst⟩ := hJ w1 le1 r1.mem.ext i
    by_cases hi' : i < ds.length
    · have hd : ds[i]? = some ds[i] := List.getElem?_eq_getElem hi'
      obtain ⟨g1, g2⟩ := hgo _ hd
      rw [List.drop_eq_getElem_cons hi'] at h1
      unfold forL at h1
      refine .inr ⟨g1, fun σ' H' => ∃ w' s', w'.H = H' ∧ Le w0 w' ∧ Rel ec X.K w' σ' s' ∧ (i + 1) + (m - 1) = ds.length ∧ OOk X.K ec W D w' (forL tg cb (ds.drop (i + 1)) s'), fun σ' H' ⟨w', s', a1, a2, a3, a4, a5⟩ => ⟨m - 1, by omega, w', s', a1, a2, a3, a4, a5⟩, fun x H' hy => ?_⟩
      obtain ⟨w2, gr, rfl, rp⟩ := g2 x H' hy
      have r2 := r1.grow gr
      cases et : tg ds[i] s1 with
      | none => rw [et] at h1; exact h1.elim
      | some s2 =>
        rw [et] at h1
        refine ⟨w2, s1, ds[i], rfl, r2, rp, s2, et, fun σ' _ r3 => ⟨w2, s2, rfl, r3, ?_⟩⟩
        have h2 := OOk.le gr.le h1
        dsimp only at h2
        cases eb : cb s2 with
        | nx s3 =>
          rw [eb] at h2
          exact fun σ4 w4 le4 r4 => ⟨w4, s3, rfl, (le1.trans gr.le).trans le4, r4, by omega, OOk.le le4 h2⟩
        | ct s3 =>
          rw [eb] at h2
          exact fun σ4 w4 le4 r4 => ⟨w4, s3, rfl, (le1.trans gr.le).trans le4, r4, by omega, OOk.le le4 h2⟩
        | bk s3 => rw [eb] at h2; exact h2
        | rt a s3 => rw [eb] at h2; exact h2
        | ex n s3 => rw [eb] at h2; exact h2
        | bad => rw [eb] at h2; exact h2
    · refine .inl ⟨hst (by omega), ?_⟩
      rw [List.drop_eq_nil_of_le (by omega)] at h1
      exact h1 σ1 w1 (Le.refl _) r1
def whL (t : CT) (b : CS) : Nat → S → Out
  | 0, _ => .bad
  | n + 1, s => (t s).out fun x s1 => if x = true then (match b s1 with
      | .nx s2 => whL t b n s2
      | .ct s2 => whL t b n s2
      | .bk s2 => .nx s2
      | o => o) else .nx s1
def cWh (fu : S → Nat) (t : CT) (b : CS) : CS := fun s => whL t b (fu s) s
theorem s_while {c : Expr} {body : List Stmt} {ct : CT} {cb : CS} {pos : Pos} (fu : S → Nat) (hp : PassesOwn (model X.prog X.w) X.A X.env X.xe) (hc : Tx X ec W c ct) (hb : Bx X ec W body cb) : Sx X ec W (.While c body [] pos) (cWh fu ct cb) := (ps_while hp hc hb).imp fun D σ H h => by
  obtain ⟨w, s, rfl, hr, h⟩ := h
  refine ⟨fun m σ1 H1 => ∃ w1 s1, w1.H = H1 ∧ Rel ec X.K w1 σ1 s1 ∧ OOk X.K ec W D w1 (whL ct cb m s1), ⟨fu s, w, s, rfl, hr, h⟩, fun m σ1 H1 hW => ?_⟩
  obtain ⟨w1, s1, rfl, r1, h1⟩ := hW
  cases m with
  | zero => exact h1.elim
  | succ m =>
    refine run_tS r1 (k := fun x s1 => if x = true then (match cb s1 with
      | .nx s2 => whL ct cb m s2
      | .ct s2 => whL ct cb m s2
      | .bk s2 => .nx s2
      | o => o) else .nx s1) h1 fun x w2 s2 le2 r2 h2 => ?_
    cases x with
    | false =>
      rw [if_neg Bool.false_ne_true] at h2 ⊢
      exact h2 σ1 w2 le2 r2
    | true =>
      rw [if_pos rfl] at h2 ⊢
      refine ⟨fun σ' H' => ∃ w' s', w'.H = H' ∧ Rel ec X.K w' σ' s' ∧ OOk X.K ec W D w' (whL ct cb m s'), fun σ' H' q => ⟨m, Nat.lt_succ_self m, q⟩, w2, s2, rfl, r2, ?_⟩
      have h3 := OOk.le le2 h2
      cases eb : cb s2 with
      | nx s3 =>
        rw [eb] at h3
        exact fun σ4 w4 le4 r4 => ⟨w4, s3, rfl, r4, OOk.le le4 h3⟩
      | ct s3 =>
        rw [eb] at h3
        exact fun σ4 w4 le4 r4 => ⟨w4, s3, rfl, r4, OOk.le le4 h3⟩
      | bk s3 => rw [eb] at h3; exact h3
      | rt a s3 => rw [eb] at h3; exact h3
      | ex n s3 => rw [eb] at h3; exact h3
      | bad => rw [eb] at h3; exact h3
end
end Vm
namespace Vm
open PySem L2 PySem.Spec PyProof.Rows
/-! ### defs and their calls -/
inductive RF where
  | ok (a : Rv) (m : List Cell)
  | ex (e : String) (m : List Cell)
  | bad
abbrev Fn := List Sl → List Cell → RF
def ArgsOk (ec : EC) (K : Fg) (w : Wd) : List V → List Sl → Prop := Paired fun v sl => SlOk ec K w (some (some v)) sl
def FOk (K : Fg) (ec : EC) (Q : VK) (E : XK) (w : Wd) : RF → Prop
  | .ok a m' => ∀ x w', Le w w' → Mem ec K w' m' → RvOk K w' x a → FrR w x a → Q x w'.H
  | .ex e m' => ∀ w', Le w w' → Mem ec K w' m' → E (.ref (ec e)) none w'.H
  | .bad => False
def spF (K : Fg) (ec : EC) (n : Nat) (f : Fn) : Sp := fun vs H Q E => vs.length = n ∧ ∃ w m as, w.H = H ∧ Mem ec K w m ∧ ArgsOk ec K w vs as ∧ FOk K ec Q E w (f as m)
/-- arguments of a call of a def: data, cells by themselves -/
abbrev CL := S → R (List Sl)
def lNil : CL := fun s => .ok [] s
def lCons (c : CE) (cl : CL) : CL := fun s => (cv c s).bind fun a s1 => match slOf a with
  | some sl => (cl s1).bind fun r s2 => .ok (sl :: r) s2
  | none => .bad
def rdL (K : Fg) (ec : EC) (W : WX) (c : CL) : TA := fun σ H Q => ∃ w s, w.H = H ∧ Rel ec K w σ s ∧ Res (fun as s' => ∀ vs w', Le w w' → Rel ec K w' σ s' → ArgsOk ec K w' vs as → Q vs w'.H) (okE K ec W σ w) (c s)
/-! ### defs that are called with no repr under way -/
structure Rg (k : Nat) (A : Around) : Prop where
  r : Room k A
  g : A.guards = some []
theorem Rg.mono {j k : Nat} {A : Around} (q : Rg k A) (h : j ≤ k) : Rg j A := ⟨q.r.mono h, q.g⟩
theorem Rg.units {k : Nat} {A : Around} (q : Rg k A) : A.units + 64 < cLine := q.r.units
theorem hu_of {k : Nat} {A : Around} (q : Rg k A) : A.units + 1 < cLine := L2.hu_of q.r
structure FnG (P : Program) (wo : World) (K : Fg) (mg : Str → Option Value) (base : Heap) (k : Nat) (f : Addr) (fd : FuncData) (ps : List Str) (sp : Sp) : Prop where
  len : ∀ vs H Q E, sp vs H Q E → vs.length = ps.length
  go : ∀ {A : Around} {out : List Env} {s : Shared} {H : Hp} {as : Args} {us : List Value} {vs : List V} {Q : VK} {E : XK}, Rg k A → Env0 P wo K mg base A out s H → BindsTo s fd as (ps.zip us) → Vals vs us → sp vs H Q E →
    codeAny (model P wo) A (.call (.ref f) as) (CR (L2.CX P wo) out P wo H s Q E) s
theorem FnG.imp {P : Program} {wo : World} {K : Fg} {mg : Str → Option Value} {base : Heap} {k : Nat} {f : Addr} {fd : FuncData} {ps : List Str} {sp sp' : Sp} (F : FnG P wo K mg base k f fd ps sp) (h : ∀ vs H Q E, sp' vs H Q E → sp vs H Q E) : FnG P wo K mg base k f fd ps sp' :=
  ⟨fun vs H Q E q => F.len vs H Q E (h _ _ _ _ q), fun a b c d q => F.go a b c d (h _ _ _ _ q)⟩
theorem run_fnG {X : Cx} {k : Nat} {f : Addr} {fd : FuncData} {ps : List Str} {sp : Sp} {E : L2.St → XK} {pins : List (Addr × Obj)} {σ : L2.St} {H : Hp} {s : Shared} {Q : VK} {us : List Value} {vs : List V} (F : FnG X.prog X.w X.K X.mg X.base k f fd ps sp) (hr : Rg k X.A) (bi : Binds X.K fd ps [])
    (px : PassesAt (L2.CX X.prog X.w) X σ (E σ)) (J : Inv X pins σ H s) (rv : Vals vs us) (q : sp vs H Q (E σ)) : wpAny (model X.prog X.w) X.A (call (.ref f) us) (EP X pins σ Q) X.xe s := by
  have ln : (us ++ []).length = ps.length := by rw [List.append_nil, ← rv.length]; exact F.len _ _ _ _ q
  have b2 := bi s us J.kIn (by simpa using ln)
  rw [List.append_nil] at b2
  refine wpAny_call (codeAny_mono (F.go hr J.env0 b2 rv q) fun r s2 hz => ?_)
  rcases r with e | (_ | u | _ | _)
  · exact px pins H s e s2 J hz
  · exact False.elim hz
  · first | exact J.after hz | exact False.elim hz
  · first | exact J.after hz | exact False.elim hz
  · first | exact J.after hz | exact False.elim hz
theorem pe_callG {X : Cx} {k : Nat} {f : Addr} {fd : FuncData} {ps : List Str} {sp : Sp} {E : L2.St → XK} {x : Str} {p pos : Pos} {e : Expr} {es : List Expr} {t : TA} (F : FnG X.prog X.w X.K X.mg X.base k f fd ps sp) (hr : Rg k X.A) (gl : Gl X x) (gm : X.mg x = some (.ref f)) (kp : PySem.W.keepIn X.K (.ref f) = true) (bi : Binds X.K fd ps []) (px : ∀ σ, PassesAt (L2.CX X.prog X.w) X σ (E σ))
    (ha : PA X (e :: es) t) (db : (x == ("__debug__" : Str)) = false) (st : starEach (e :: es) X.env = (false, eval e X.env) :: starEach es X.env) (pl : (backTo pos (starEach es X.env)).any (·.1) = false) : PE X (.Call (.Name x p) (e :: es) [] pos) (tCallS sp E t) := by
  constructor
  intro pins s σ H Q J h
  refine wpAny_Call_Name_kw (ld_glob J gl gm ?_ db)
  exact PySem.W.callWith_K (h₀ := X.base) J.ok.mod.kin kp (thn (ha.run pos pins s σ H _ J h) fun us s2 ⟨vs, H2, J2, rv, q⟩ => ⟨J2.kIn, run_fnG F hr bi (px σ) J2 rv q⟩) st pl
section
variable {X : Cx} {ec : EC} {W : WX}
theorem l_nil : PA X [] (rdL X.K ec W lNil) := PA.imp pa_nil fun σ H Q h => by
  obtain ⟨w, s, rfl, hr, h⟩ := h
  exact h [] w (Le.refl w) hr .nil
theorem l_cons {e : Expr} {es : List Expr} {c : CE} {cl : CL} (h1 : Ex X ec W e c) (h2 : PA X es (rdL X.K ec W cl)) (hs : starEach (e :: es) X.env = (false, eval e X.env) :: starEach es X.env := by rfl) : PA X (e :: es) (rdL X.K ec W (lCons c cl)) :=
  PA.imp (pa_cons h1 h2 hs) fun σ H Q h => by
    obtain ⟨w, s, rfl, hr, h⟩ := h
    show rd X.K ec W c σ w.H _
    refine run_cv hr h fun x w1 s1 a le1 hr1 ha hn h1 => ?_
    cases e1 : slOf a with
    | none => simp only [e1] at h1; exact h1.elim
    | some sl =>
      simp only [e1] at h1
      refine ⟨w1, s1, rfl, hr1, ?_⟩
      refine Res.mono h1.bind (fun as s2 h2 vs w2 le2 hr2 rp => ?_) fun _ _ q => okE_le le1 q
      exact h2 (x :: vs) w2 (le1.trans le2) hr2 (.cons (slOk_mono le2 (slOf_ok ha e1)) rp)
def RF.toR (v : List Sl) : RF → R Rv
  | .ok a m => .ok a ⟨v, m⟩
  | .ex e m => .ex e ⟨v, m⟩
  | .bad => .bad
def cCall (f : Fn) (cl : CL) : CE := fun s => (cl s).bind fun as s1 => (f as s1.m).toR s1.v
theorem rel_mem {K : Fg} {w w' : Wd} {σ : L2.St} {v : List Sl} {m m' : List Cell} (le : Le w w') (r : Rel ec K w σ ⟨v, m⟩) (h : Mem ec K w' m') : Rel ec K w' σ ⟨v, m'⟩ := ⟨h, r.len, fun i sl e => slOk_mono le (r.slot i sl e)⟩
theorem e_call {k : Nat} {fa : Addr} {fd : FuncData} {ps : List Str} {f : Fn} {x : Str} {p pos : Pos} {e : Expr} {es : List Expr} {cl : CL} {n : Nat} (F : FnG X.prog X.w X.K X.mg X.base k fa fd ps (spF X.K ec n f)) (hr : Rg k X.A) (hm : X.mg x = some (.ref fa)) (hk : PySem.W.keepIn X.K (.ref fa) = true) (hb : Binds X.K fd ps [])
    (tk : Takes X W) (ha : PA X (e :: es) (rdL X.K ec W cl)) (hl : ∀ s as s', cl s = .ok as s' → as.length = n) (hg : Gl X x := by rfl) (hdb : (x == ("__debug__" : Str)) = false := by decide) (he : starEach (e :: es) X.env = (false, eval e X.env) :: starEach es X.env := by rfl)
    (hpl : (backTo pos (starEach es X.env)).any (·.1) = false := by rfl) : Ex X ec W (.Call (.Name x p) (e :: es) [] pos) (cCall f cl) :=
  (pe_callG F hr hg hm hk hb (fun σ => passAt tk σ) ha hdb he hpl).imp fun σ H Q h => by
    obtain ⟨w, s, rfl, hr, h⟩ := h
    refine ⟨w, s, rfl, hr, ?_⟩
    unfold cCall at h
    cases e1 : cl s with
    | bad => rw [e1] at h; exact h
    | ex n s' => rw [e1] at h; exact h
    | ok as s1 =>
      rw [e1] at h
      intro vs w1 le1 r1 ao
      refine ⟨by rw [paired_len ao]; exact hl _ _ _ e1, w1, s1.m, as, rfl, r1.mem, ao, ?_⟩
      have h1 : Res (okV ec X.K w σ Q) (okE X.K ec W σ w) ((f as s1.m).toR s1.v) := h
      cases e2 : f as s1.m with
      | bad => rw [e2] at h1; exact h1
      | ex n m' =>
        rw [e2] at h1
        exact fun w2 le2 m2 => h1 w2 (le1.trans le2) (rel_mem le2 r1 m2)
      | ok a m' =>
        rw [e2] at h1
        exact fun x w2 le2 m2 o fr => h1 x w2 (le1.trans le2) (rel_mem le2 r1 m2) o (fr.back le1 le2 o)
/-- a written list of arguments has its length -/
def LLen (n : Nat) (cl : CL) : Prop := ∀ s as s', cl s = .ok as s' → as.length = n
theorem ll_nil : LLen 0 lNil := fun s as s' e => by
  cases e
  rfl
theorem ll_cons {n : Nat} {c : CE} {cl : CL} (h : LLen n cl) : LLen (n + 1) (lCons c cl) := fun s as s' e => by
  unfold lCons at e
  cases e1 : cv c s with
  | bad => rw [e1] at e; cases e
  | ex _ _ => rw [e1] at e; cases e
  | ok a s1 =>
    rw [e1] at e
    simp only [R.bind] at e
    cases e3 : slOf a with
    | none => rw [e3] at e; cases e
    | some sl =>
      rw [e3] at e
      dsimp only at e
      cases e2 : cl s1 with
      | bad => rw [e2] at e; cases e
      | ex _ _ => rw [e2] at e; cases e
      | ok xs s2 =>
        rw [e2] at e
        cases e
        show xs.length + 1 = n + 1
        rw [h _ _ _ e2]
end
/-- a def's run: its slots, its cells gone behind it; a list or dict of its own is handed back as new -/
def fin (m : List Cell) : Out → RF
  | .nx s => .ok (.d .none) (s.m.take m.length)
  | .rt (.ref k) s => if m.length ≤ k then (match s.m[k]? with
    | some .gone => .bad
    | some c => .ok (.new c) (s.m.take m.length)
    | none => .bad) else .bad
  | .rt (.t _ _) _ => .bad
  | .rt a s => .ok a (s.m.take m.length)
  | .ex e s => .ex e (s.m.take m.length)
  | _ => .bad
def runF (n : Nat) (c : CS) : Fn := fun as m => fin m (c ⟨as ++ List.replicate (n - as.length) .u, m⟩)
theorem nv_cut {w w' : Wd} {m m' : List Cell} {G : Hp} (hl : w.r.length = m.length) (le : Le w w') (h : NV ec w' m') : NV ec ⟨G, w.r, w.F, w'.H⟩ (m'.take m.length) := by
  refine ⟨fun t q n j ds e1 e2 => ?_, fun p hp => h.2 p (by rw [le.s]; exact hp)⟩
  have ht : t < m.length := by
    rw [← hl]
    exact (List.getElem?_eq_some_iff.mp e1).1
  rw [List.getElem?_take_of_lt ht] at e2
  obtain ⟨h1, h2⟩ := h.1 t q n j ds (le.cell e1) e2
  refine ⟨h1, fun p ks e3 e4 => ?_⟩
  rw [List.getElem?_take_of_lt (by omega)] at e4
  exact h2 p ks (le.cell e3) e4
theorem cut_mem {K : Fg} {w w' : Wd} {m m' : List Cell} (le : Le w w') (hm : Mem ec K w m) (h : Mem ec K w' m') : Mem ec K ⟨w'.G, w.r, w.F, w'.H⟩ (m'.take m.length) ∧ Le w ⟨w'.G, w.r, w.F, w'.H⟩ := by
  have hp : ∀ (n : Nat) (p : Addr), w.r[n]? = some p → w'.r[n]? = some p := fun n p e => le.cell e
  have hl : m.length ≤ m'.length := by
    rw [← hm.len, ← h.len]
    exact le.p.length_le
  have l3 : Le w ⟨w'.G, w.r, w.F, w'.H⟩ := ⟨le.g, le.k, List.prefix_refl _, fun _ q => .inl q, rfl⟩
  refine ⟨⟨h.ext, ?_, hm.nd, fun n p c h1 h2 => ?_, fun p q => ?_, hm.tab.back h.tab, hm.inv.trans (l3.ch _), h.gt, nv_cut hm.len le h.nv⟩, l3⟩
  · show w.r.length = (m'.take m.length).length
    rw [List.length_take, hm.len]
    omega
  · have h2 : (m'.take m.length)[n]? = some c := h2
    have hn : n < m.length := by
      rw [← hm.len]
      exact (List.getElem?_eq_some_iff.mp h1).1
    rw [List.getElem?_take_of_lt hn] at h2
    exact h.cell n p c (hp n p h1) h2
  · have q' : w'.F p := by rw [le.s]; exact q
    obtain ⟨a, b, c⟩ := h.fo p q'
    exact ⟨a, (hm.fo p q).2.1, c⟩
theorem start_slot {n : Nat} {vs : List V} {as : List Sl} {K : Fg} {w : Wd} {N : List Str} (hN : N.length = n) (ao : ArgsOk ec K w vs as) (i : Nat) (sl : Sl) (e : (as ++ List.replicate (n - as.length) Sl.u)[i]? = some sl) : SlOk ec K w (L2.start N vs)[i]? sl := by
  have hlen := paired_len ao
  by_cases hi : i < as.length
  · rw [List.getElem?_append_left hi] at e
    unfold L2.start
    rw [List.getElem?_append_left (by rw [List.length_map]; omega), List.getElem?_map]
    have key : ∀ {vs : List V} {as : List Sl} {i : Nat} {sl : Sl}, ArgsOk ec K w vs as → as[i]? = some sl → SlOk ec K w (Option.map some vs[i]?) sl := by
      intro vs as i sl h
      induction h generalizing i with
      | nil => intro e; simp at e
      | cons r t ih =>
        intro e
        cases i with
        | zero =>
          simp at e
          subst e
          exact r
        | succ i =>
          simp only [List.getElem?_cons_succ] at e ⊢
          exact ih e
    exact key ao e
  · rw [List.getElem?_append_right (by omega), List.getElem?_replicate] at e
    split at e
    · cases e
      trivial
    · cases e
theorem rel_start {K : Fg} {w : Wd} {m : List Cell} {vs : List V} {as : List Sl} {N : List Str} (hm : Mem ec K w m) (ao : ArgsOk ec K w vs as) : Rel ec K w (L2.start N vs) ⟨as ++ List.replicate (N.length - as.length) .u, m⟩ := by
  refine ⟨hm, ?_, fun i sl e => start_slot rfl ao i sl e⟩
  show (L2.start N vs).length = (as ++ List.replicate (N.length - as.length) Sl.u).length
  unfold L2.start
  rw [List.length_append, List.length_append, List.length_map, List.length_replicate, List.length_replicate, paired_len ao]
theorem fin_ok {K : Fg} {ec : EC} {Q : VK} {E : XK} {w : Wd} {m : List Cell} {o : Out} (hm : Mem ec K w m) (h : FOk K ec Q E w (fin m o)) : OOk K ec (fun cls d _ H => E cls d H) { nx := fun _ H' => Q .non H', rt := Q } w o := by
  cases o with
  | bad => exact h
  | bk s => exact h.elim
  | ct s => exact h.elim
  | nx s =>
    intro σ' w' le r
    obtain ⟨m2, le2⟩ := cut_mem le hm r.mem
    exact h .non ⟨w'.G, w.r, w.F, w'.H⟩ le2 m2 .non .d
  | ex e s =>
    intro σ' w' le r
    obtain ⟨m2, le2⟩ := cut_mem le hm r.mem
    exact h ⟨w'.G, w.r, w.F, w'.H⟩ le2 m2
  | rt a s =>
    intro x σ' w' le r o f
    obtain ⟨m2, le2⟩ := cut_mem le hm r.mem
    cases a with
    | d y => exact h x ⟨w'.G, w.r, w.F, w'.H⟩ le2 m2 o .d
    | t b es => exact h.elim
    | new c =>
      obtain ⟨p, ex, ⟨h1, h2⟩, hc⟩ := o
      refine h x ⟨w'.G, w.r, w.F, w'.H⟩ le2 m2 ⟨p, ex, ⟨fun z => h1 (le.mem z), fun z => h2 (by rw [le.s]; exact z)⟩, hc⟩ fun c' e' p' ep => f c' e' p' ep
    | ref k =>
      obtain ⟨p, rfl, hk⟩ := o
      unfold fin at h
      by_cases hl : m.length ≤ k
      · have h : FOk K ec Q E w (match s.m[k]? with
          | some .gone => .bad
          | some c => .ok (.new c) (s.m.take m.length)
          | none => .bad) := by
          simpa only [hl, if_true] using h
        cases ec' : s.m[k]? with
        | none => rw [ec'] at h; exact h.elim
        | some c =>
          rw [ec'] at h
          have hc := r.mem.cell k p c hk ec'
          have np : p ∉ w.r := fun z => by
            obtain ⟨j, hj⟩ := List.getElem?_of_mem z
            have hj2 := le.cell hj
            have : j = k := nd_ix r.mem.nd hj2 hk
            have hj3 := (List.getElem?_eq_some_iff.mp hj).1
            rw [hm.len] at hj3
            omega
          have fp : w.H p = none := by
            rcases le.f p (List.mem_of_getElem? hk) with z | z
            · exact absurd z np
            · exact z
          have nf : ¬ w.F p := fun z => by
            have z' : w'.F p := by rw [le.s]; exact z
            exact (r.mem.fo p z').2.1 (List.mem_of_getElem? hk)
          cases c with
          | gone => exact h.elim
          | l ds => exact h (.ref p) ⟨w'.G, w.r, w.F, w'.H⟩ le2 m2 ⟨p, rfl, ⟨np, nf⟩, hc⟩ fun _ _ q eq => by cases eq; exact fp
          | k ds => exact h (.ref p) ⟨w'.G, w.r, w.F, w'.H⟩ le2 m2 ⟨p, rfl, ⟨np, nf⟩, hc⟩ fun _ _ q eq => by cases eq; exact fp
          | t ds => exact h (.ref p) ⟨w'.G, w.r, w.F, w'.H⟩ le2 m2 ⟨p, rfl, ⟨np, nf⟩, hc⟩ fun _ _ q eq => by cases eq; exact fp
          | r ds => exact h (.ref p) ⟨w'.G, w.r, w.F, w'.H⟩ le2 m2 ⟨p, rfl, ⟨np, nf⟩, hc⟩ fun _ _ q eq => by cases eq; exact fp
          | i n j ds => exact h (.ref p) ⟨w'.G, w.r, w.F, w'.H⟩ le2 m2 ⟨p, rfl, ⟨np, nf⟩, hc⟩ fun _ _ q eq => by cases eq; exact fp
          | g x => exact h (.ref p) ⟨w'.G, w.r, w.F, w'.H⟩ le2 m2 ⟨p, rfl, ⟨np, nf⟩, hc⟩ fun _ _ q eq => by cases eq; exact fp
      · simp only [hl, if_false] at h
        exact h.elim
/-- THE RULE of a def -/
theorem fn_ok {P : Program} {wo : World} {K : Fg} {mg : Str → Option Value} {base : Heap} {ec : EC} {x qual : Str} {st : Stmt} {f : Addr} {fd : FuncData} {N ps : List Str} {k : Nat} (F : Fun K x qual st f fd) (S : FnScope N ps (defScope st)) (c : CS)
    (hb : ∀ (cdv : Value) (A : Around) (outer : List Env) (s : Shared) (H : Hp) (E : XK), Rg k (A.deeper (envOfC qual (defScope st) s.heap.objs.size f cdv)) → Takes (cxOf (L2.CX P wo) P wo K mg base N qual (defScope st) f cdv A outer s H E) (fun cls d _ H => E cls d H) →
      PassesOwn (model P wo) (A.deeper (envOfC qual (defScope st) s.heap.objs.size f cdv)) (envOfC qual (defScope st) s.heap.objs.size f cdv) (cxOf (L2.CX P wo) P wo K mg base N qual (defScope st) f cdv A outer s H E).xe →
      PSs (cxOf (L2.CX P wo) P wo K mg base N qual (defScope st) f cdv A outer s H E) (defBody st) (rdS K ec (fun cls d _ H => E cls d H) c)) :
    FnG P wo K mg base (k + 1) f fd ps (spF K ec ps.length (runF N.length c)) := by
  obtain ⟨oc, od, kV, doc, pm, an, cdv, ct, osl, rfl, lk, hcd⟩ := F.ex
  refine ⟨fun vs H Q E h => h.1, fun {A out s H as us vs Q E} rg e0 bd rv h => ?_⟩
  have inH : K.In s.heap := e0.mod.kin.keeps fun b o e => (e0.bs b o e).1
  have noL : s.heap.NoLimit := e0.mod.nolimit.keeps fun b o e => (e0.bs b o e).1
  refine codeAny_call_function rg.r.depth (inH _ _ lk) rfl S.co S.gen rfl (PySem.W.codeRec_of inH hcd) (bd _ _ _ _ ?_)
  refine wpAny_newFunctionEnv_cells S.kind (fun ⟨n, v⟩ hy => ?_) fun env he s1 z => ?_
  · rcases S.par n (List.of_mem_zip hy).1 with q | q
    · exact .inl q
    · exact .inr ⟨q, PySem.W.cellsFrom_some _ _ _ (.inl q)⟩
  subst he
  refine ⟨noL.keeps z.toInCall.keep, codeAny_func ?_⟩
  have body := hb cdv A out s H E ⟨rg.r.deeper _, rg.g⟩ (takes_of rfl rfl rfl rfl) (passes_of rfl)
  have J : Inv (cxOf (L2.CX P wo) P wo K mg base N qual (defScope st) f cdv A out s H E) [] (start N vs) H s1 := inv_start S rg.r.hd e0 h.1 rv z
  obtain ⟨hl, w, m, aa, rfl, hm, ao, h⟩ := h
  refine wpAny_mono (body.run [] s1 (start N vs) w.H _ J ⟨w, _, rfl, rel_start hm ao, fin_ok hm h⟩) (fun fl s2 hs => ?_) fun e s2 hs => hs
  have out : ∀ {σ' : L2.St} {H' : Hp} {v : V} {u : Value}, Inv (cxOf (L2.CX P wo) P wo K mg base N qual (defScope st) f cdv A out s w.H E) [] σ' H' s2 → RelV v u → Q v H' → L2.CE out P wo w.H s Q u s2 :=
    fun {σ' H' v u} J2 rv2 q2 => ⟨v, H', J2.os, J2.bare, J2.base, J2.hok, rv2, q2⟩
  cases fl with
  | next =>
    obtain ⟨σ', H', J2, q2⟩ := hs
    exact out (v := V.non) (u := Value.none) J2 rfl q2
  | ret u =>
    obtain ⟨v, σ', H', J2, rv2, q2⟩ := hs
    exact out J2 rv2 q2
  | brk =>
    obtain ⟨_, _, _, q2⟩ := hs
    exact q2.elim
  | cont =>
    obtain ⟨_, _, _, q2⟩ := hs
    exact q2.elim
/-! ### raise -/
structure ExcF (K : Fg) (mg : Str → Option Value) (ec : EC) (x : Str) (n : String) : Prop where
  g : mg x = some (.ref (ec n))
  x : PySem.W.excIn K (ec n) [.type "ValueError", .type "Exception", .type "BaseException", .type "object"] "ValueError.__new__" = true
  k : PySem.W.keepIn K (.ref (ec n)) = true
  b : PySem.W.subIn K (.ref (ec n)) (.type "BaseException") = some true
  t : PySem.W.typeIn K (.ref (ec n)) = some (.type "type")
section
variable {X : Cx} {ec : EC} {W : WX}
def cRaise (n : String) : CS := fun s => .ex n s
theorem s_raise {x m : Str} {n : String} {j : Nat} {p p2 pos pos2 : Pos} (F : ExcF X.K X.mg ec x n) (tk : Takes X W) (hcal : X.calm = true := by rfl) (hg : Gl X x := by rfl) (hdb : (x == ("__debug__" : Str)) = false := by decide) : Sx X ec W (.Raise (some (.Call (.Name x p) [.Constant (.str m) j p2] [] pos)) none pos2) (cRaise n) :=
  (ps_raise hcal tk (pmk_own PySem.F.excBase_ValueError F.x F.g F.k (raises_own F.b F.t) hg hdb)).imp fun D σ H h => by
    obtain ⟨w, s, rfl, hr, h⟩ := h
    exact h σ w (Le.refl w) hr
/-! ### writing into a cell -/
def Cell.plain : Cell → Bool
  | .r _ => false
  | .i _ _ _ => false
  | _ => true
theorem nv_set {w : Wd} {m : List Cell} {n : Nat} {p : Addr} {o : HO} {c : Cell} (nd : w.r.Nodup) (hl : w.r.length = m.length) (hn : w.r[n]? = some p) (hF : ∀ q, w.F q → q ≠ p) (hc : c.plain = true) (h : NV ec w m) : NV ec ⟨w.G, w.r, w.F, upd w.H p o⟩ (m.set n c) := by
  have hnm : n < m.length := by
    rw [← hl]
    exact (List.getElem?_eq_some_iff.mp hn).1
  refine ⟨fun t q n0 j ds e1 e2 => ?_, fun q hq => ?_⟩
  · have ne : n ≠ t := fun z => by
      subst z
      rw [List.getElem?_set_self hnm] at e2
      cases e2
      cases hc
    rw [List.getElem?_set_ne ne] at e2
    obtain ⟨h1, h2⟩ := h.1 t q n0 j ds e1 e2
    refine ⟨h1, fun p' ks e3 e4 => ?_⟩
    have ne2 : n ≠ n0 := fun z => by
      subst z
      rw [List.getElem?_set_self hnm] at e4
      cases e4
      cases hc
    rw [List.getElem?_set_ne ne2] at e4
    obtain ⟨ws, k, e5, e6⟩ := h2 p' ks e3 e4
    refine ⟨ws, k, ?_, e6⟩
    have hp : p' ≠ p := fun z => ne2 (nd_ix nd hn (z ▸ e3))
    show upd w.H p o p' = _
    rw [upd_ne hp]
    exact e5
  · rcases h.2 q hq with z | ⟨u, e, z⟩
    · exact .inl z
    · refine .inr ⟨u, ?_, z⟩
      show upd w.H p o q = _
      rw [upd_ne (hF q hq)]
      exact e
theorem cell_set {K : Fg} {w : Wd} {σ : L2.St} {s : S} {n : Nat} {p : Addr} {o : HO} {c : Cell} (r : Rel ec K w σ s) (hn : w.r[n]? = some p) (hg : w.G p = none) (hc : COk K w.G (upd w.H p o) p c) (hpl : c.plain = true := by rfl) :
    Rel ec K ⟨w.G, w.r, w.F, upd w.H p o⟩ σ ⟨s.v, s.m.set n c⟩ ∧ Le w ⟨w.G, w.r, w.F, upd w.H p o⟩ := by
  have le : Le w ⟨w.G, w.r, w.F, upd w.H p o⟩ := ⟨Same.refl _, fun a u e na => ⟨u, by
    show upd w.H p o a = some u
    have hne : a ≠ p := by
      intro z
      subst z
      exact na (List.mem_of_getElem? hn)
    rw [upd_ne hne]
    exact e, fun _ => rfl⟩, List.prefix_refl _, fun _ h => .inl h, rfl⟩
  refine ⟨⟨⟨fun b u e => ?_, by show w.r.length = (s.m.set n c).length; rw [List.length_set]; exact r.mem.len, r.mem.nd, fun k q c' h1 h2 => ?_, fun q hq => ?_, (let ⟨_, a, b, c⟩ := r.liveN hn hg; r.mem.tab.put a b c.1), r.mem.inv.trans (le.ch _), r.mem.gt, nv_set r.mem.nd r.mem.len hn (fun q hq z => (r.mem.fo q hq).2.1 (z ▸ List.mem_of_getElem? hn)) hpl r.mem.nv⟩, r.len, fun i sl e => slOk_mono le (r.slot i sl e)⟩, le⟩
  · show upd w.H p o b = some u
    have hb : b ≠ p := by
      intro z
      subst z
      have e : w.G b = some u := e
      rw [hg] at e
      cases e
    rw [upd_ne hb]
    exact r.mem.ext b u e
  · have h2 : (s.m.set n c)[k]? = some c' := h2
    by_cases hk : n = k
    · subst hk
      have hl : n < s.m.length := by rw [← r.mem.len]; exact (List.getElem?_eq_some_iff.mp hn).1
      rw [List.getElem?_set_self hl] at h2
      cases h2
      have h1 : w.r[n]? = some q := h1
      rw [hn] at h1
      cases h1
      exact hc
    · rw [List.getElem?_set_ne hk] at h2
      have hq : q ≠ p := fun z => hk (nd_ix r.mem.nd hn (z ▸ h1))
      have c0 := r.mem.cell k q c' h1 h2
      refine cOk_mono (Same.refl _) (fun hc => ?_) (fun u _ e => ?_) c0
      · show w.G q = none
        cases c' with
        | l ds => exact c0.1
        | k kvs => exact c0.1
        | t kvs => exact c0.1
        | r ks => exact c0.1
        | i n j ds => exact c0.1
        | g x => exact c0.1
        | gone => exact absurd rfl hc
      · show upd w.H p o q = some u
        rw [upd_ne hq]
        exact e
  · obtain ⟨a, b, u, hu⟩ := r.mem.fo q hq
    refine ⟨a, b, u, ?_⟩
    show upd w.H p o q = some u
    have hne : q ≠ p := by
      intro z
      subst z
      exact b (List.mem_of_getElem? hn)
    rw [upd_ne hne]
    exact hu
/-! ### dicts -/
def getD {κ : Type} [DecidableEq κ] (kvs : List (κ × D)) (k : κ) : Option D := (kvs.find? fun kv => decide (kv.1 = k)).map (·.2)
def putD {κ : Type} [DecidableEq κ] (kvs : List (κ × D)) (k : κ) (v : D) : List (κ × D) :=
  if (kvs.any fun kv => decide (kv.1 = k)) = true then kvs.map (fun kv => if kv.1 = k then (kv.1, v) else kv) else kvs ++ [(k, v)]
/-- a key from data -/
def keyOf : D → Option L2.Key
  | .int i => some (.inl i)
  | .str x => some (.inr x)
  | _ => none
def keysOf : List D → Option (List L2.Key)
  | [] => some []
  | d :: r => match keyOf d, keysOf r with
    | some k, some l => some (k :: l)
    | _, _ => none
def keyT : D → Option (List L2.Key)
  | .tuple ds => keysOf ds
  | _ => none
def getT (es : List (D × D)) (k : List L2.Key) : Option D := (es.find? fun e => decide (keyT e.1 = some k)).map (·.2)
/-- what a look into a dict gives -/
def look : Od → Od → Option (Option D)
  | .c (.k kvs), .d x => match keyOf x with
    | some k => some (getD kvs k)
    | none => none
  | .c (.t kvs), .d (.tuple ds) => match keysOf ds with
    | some k => some (getD kvs k)
    | none => none
  | .d (.dict ((.list [], .none) :: es)), .d (.tuple ds) => match keysOf ds with
    | some k => some (getT es k)
    | none => none
  | _, _ => none
def opItem (o o' : Od) : Option Rv := match look o o' with
  | some (some d) => some (.d d)
  | _ => none
/-- a reading by the arguments' order turned -/
def cOp2r (f : Od → Od → Option Rv) (a b : CE) : CE := cOp2 (fun o o' => f o' o) a b
theorem cB_rd {c : CE} {σ : L2.St} {H : Hp} {Q : Bool → Hp → Prop} (h : rdT X.K ec W (cB c) σ H Q) : rd X.K ec W c σ H fun x H' => ∃ k, x = .bl k ∧ Q k H' := by
  obtain ⟨w, s, rfl, hr, h⟩ := h
  unfold cB at h
  refine run_cv hr h fun x w1 s1 a le1 hr1 ha hn h1 => ?_
  split at h1
  · have ha : Rp X.K w1.G x (.bool _) := ha
    cases ha
    exact ⟨_, rfl, h1 w1 le1 hr1⟩
  · exact h1.elim
/-- comparisons as tests -/
theorem t_cmp {op : CmpOp} {a b : Expr} {ca cb : CE} {r : R2} {f : Od → Od → Option Rv} {pos : Pos} (ho : OpR X (compareOp op) r) (hs : Op2S X.K r f) (ha : Ex X ec W a ca) (hb : Ex X ec W b cb) (hm : behindInMarks op b = false := by first | exact nomark _ | rfl) : Tx X ec W (.Compare a [op] [b] pos) (cB (cOp2 f ca cb)) :=
  (pt_cmpR ho ha hb hm).imp fun _ _ _ h => op2 hs (cB_rd h)
/-- d[k] = v -/
def putIn : Cell → D → D → Option Cell
  | .k kvs, x, v => match keyOf x with
    | some k => if kvs.length < 16000000 then some (.k (putD kvs k v)) else none
    | none => none
  | .t kvs, .tuple ds, v => match keysOf ds with
    | some k => if kvs.length < 16000000 then some (.t (putD kvs k v)) else none
    | none => none
  | _, _, _ => none
theorem lt16 {n : Nat} (h : n < 16000000) : n < sizeLine := Nat.lt_of_lt_of_le h (by decide)
def cPut (co ci cw : CE) : CS := fun s => (cv cw s).out fun v s1 => (cv co s1).out fun o s2 => (cv ci s2).out fun i s3 => match v, o, i with
  | .d v, .ref n, .d k => match s3.m[n]? with
    | some c => match putIn c k v with
      | some c' => .nx ⟨s3.v, s3.m.set n c'⟩
      | none => .bad
    | none => .bad
  | _, _, _ => .bad
end
end Vm
namespace Vm
open PySem L2
/-! ### what others hold -/
theorem Rel.f {K : Fg} {w : Wd} {σ : L2.St} {s : S} (r : Rel ec K w σ s) {F : Addr → Prop} (h : ∀ p, F p → w.G p = none ∧ p ∉ w.r ∧ ∃ o, w.H p = some o) (ht : TabOk ec F w.H) (hf : FT ec (w.f F)) : Rel ec K (w.f F) σ s :=
  ⟨⟨r.mem.ext, r.mem.len, r.mem.nd, r.mem.cell, h, ht, r.mem.inv, r.mem.gt, r.mem.nv.1, hf⟩, r.len, fun i sl e => by
    have q := r.slot i sl e
    cases sl with
    | u => trivial
    | d x => exact q
    | c n => exact q
    | x n => exact q
    | t _ _ => exact q
    | f => exact q
    | f2 => exact q⟩
/-- a new object that we hold for ourselves -/
abbrev Wd.hold (w : Wd) (p : Addr) (o : HO) : Wd := ⟨w.G, w.r, fun q => w.F q ∨ q = p, upd w.H p o⟩
theorem Rel.hold {K : Fg} {w : Wd} {σ : L2.St} {s : S} (r : Rel ec K w σ s) {p : Addr} {o : HO} (hp : w.H p = none) (n1 : NoTb o := by first | exact noTb_k | exact noTb_l | exact noTb_t) (n2 : NoTup o := by exact fun _ z => by cases z) : Rel ec K (w.hold p o) σ s := by
  have g := r.grow (gr_new (w := w) (o := o) hp)
  refine Rel.f g (F := fun q => w.F q ∨ q = p) (fun q hq => ?_) (g.mem.tab.f fun _ h => .inl h) fun q hq => hq.elim (fun hq => g.mem.nv.2 q hq) fun e => .inr ⟨o, by rw [e]; exact upd_same, n1, n2⟩
  rcases hq with hq | rfl
  · exact g.mem.fo q hq
  · refine ⟨r.mem.ext.free hp, fun m => ?_, o, upd_same⟩
    obtain ⟨u, hu⟩ := r.live m
    rw [hp] at hu
    cases hu
theorem Le.hold {w : Wd} {p : Addr} {o : HO} (hp : w.H p = none) : Le w ((w.hold p o).f w.F) := (gr_new (w := w) (o := o) hp).le
theorem Rel.new0 {K : Fg} {w : Wd} {σ : L2.St} {s : S} (r : Rel ec K w σ s) {p : Addr} (hp : w.H p = none) : ec.w.H p = none := by
  cases e : ec.w.H p with
  | none => rfl
  | some o =>
    by_cases m : p ∈ ec.w.r
    · obtain ⟨u, hu⟩ := r.live (r.mem.inv.mem m)
      rw [hp] at hu
      cases hu
    · obtain ⟨u, hu⟩ := r.mem.inv.kX e m
      rw [show w.H p = some u from hu] at hp
      cases hp
theorem nv_re {w : Wd} {m : List Cell} {p : Addr} {o : HO} (hp : p ∉ w.r) (n3 : NoTb o) (n4 : NoTup o) (h : NV ec w m) : NV ec ⟨w.G, w.r, w.F, upd w.H p o⟩ m := by
  refine ⟨fun t q n j ds e1 e2 => ?_, fun q hq => ?_⟩
  · obtain ⟨h1, h2⟩ := h.1 t q n j ds e1 e2
    refine ⟨h1, fun p' ks e3 e4 => ?_⟩
    obtain ⟨ws, k, e5, e6⟩ := h2 p' ks e3 e4
    refine ⟨ws, k, ?_, e6⟩
    show upd w.H p o p' = _
    have np : p' ≠ p := fun z => hp (z ▸ List.mem_of_getElem? e3)
    rw [upd_ne np]
    exact e5
  · by_cases e : q = p
    · exact .inr ⟨o, by rw [e]; exact upd_same, n3, n4⟩
    · rcases h.2 q hq with z | ⟨u, e2, z⟩
      · exact .inl z
      · refine .inr ⟨u, ?_, z⟩
        show upd w.H p o q = _
        rw [upd_ne e]
        exact e2
/-- what we held is changed, by us -/
theorem Rel.rehold {K : Fg} {w : Wd} {σ : L2.St} {s : S} (r : Rel ec K w σ s) {p : Addr} {o o0 : HO} (hp : w.F p) (hh : w.H p = some o0) (n1 : NoTb o0) (n2 : ∀ f, o0 ≠ .ext f) (hz : ec.w.H p = none) (n3 : NoTb o := by first | exact noTb_k | exact noTb_l | exact noTb_t) (n4 : NoTup o := by exact fun _ z => by cases z) : Rel ec K ⟨w.G, w.r, w.F, upd w.H p o⟩ σ s := by
  obtain ⟨h1, h2, u, h3⟩ := r.mem.fo p hp
  refine ⟨⟨fun b x e => ?_, r.mem.len, r.mem.nd, fun n q c e1 e2 => ?_, fun q hq => ?_, r.mem.tab.put hh n1 (noX_of n2).1, ⟨r.mem.inv.g, fun a u e n => by
      obtain ⟨u', e1, q1⟩ := r.mem.inv.k a u e n
      refine ⟨u', ?_, q1⟩
      show upd w.H p o a = some u'
      rw [upd_ne (ne_of_none e hz)]
      exact e1, r.mem.inv.p, r.mem.inv.f, rfl⟩, r.mem.gt, nv_re h2 n3 n4 r.mem.nv⟩, r.len, fun i sl e => ?_⟩
  · show upd w.H p o b = some x
    have hb : b ≠ p := by
      intro z
      subst z
      have e : w.G b = some x := e
      rw [h1] at e
      cases e
    rw [upd_ne hb]
    exact r.mem.ext b x e
  · have hq : q ≠ p := fun z => by
      subst z
      exact h2 (List.mem_of_getElem? e1)
    have c0 := r.mem.cell n q c e1 e2
    refine cOk_mono (Same.refl _) (fun hc => ?_) (fun x _ e => ?_) c0
    · show w.G q = none
      cases c with
      | l ds => exact c0.1
      | k kvs => exact c0.1
      | t kvs => exact c0.1
      | r ks => exact c0.1
      | i n j ds => exact c0.1
      | g x => exact c0.1
      | gone => exact absurd rfl hc
    · show upd w.H p o q = some x
      rw [upd_ne hq]
      exact e
  · obtain ⟨a, b, x, hx⟩ := r.mem.fo q hq
    refine ⟨a, b, ?_⟩
    by_cases e : q = p
    · subst e
      exact ⟨o, upd_same⟩
    · refine ⟨x, ?_⟩
      show upd w.H p o q = some x
      rw [upd_ne e]
      exact hx
  · have q := r.slot i sl e
    cases sl with
    | u => trivial
    | d x => exact q
    | c n => exact q
    | f => exact q
    | f2 => exact q
    | t _ _ => exact q
    | x n =>
      obtain ⟨z1, a, z2, z3, z4⟩ := q
      refine ⟨z1, a, z2, z3, ?_⟩
      show upd w.H p o a = some _
      have na : a ≠ p := fun z => by
        subst z
        rw [hh] at z4
        unfold ExO at z4
        exact n2 _ (Option.some.inj z4)
      rw [upd_ne na]
      exact z4
section
variable {X : Cx} {ec : EC} {W : WX}
/-! ### a written dict -/
def mergeD (acc : List (L2.Key × D)) : List L2.Key → List D → List (L2.Key × D)
  | k :: ks, d :: ds => mergeD (putD acc k d) ks ds
  | _, _ => acc
def cDisp (ks : List L2.Key) (ca : CA) : CE := fun s => (ca s).bind fun ds s1 => .ok (.new (.k (mergeD [] ks ds))) s1
/-! ### lists by their methods -/
/-- f takes the list and gives the answer and the list behind -/
def cMut (f : List D → List D → Option (D × List D)) (co : CE) (ca : CA) : CE := fun s => (cv co s).bind fun o s1 => match o with
  | .ref n => match s1.m[n]? with
    | some (.l _) => (ca s1).bind fun ds s2 => match s2.m[n]? with
      | some (.l xs) => match f xs ds with
        | some (d, ys) => .ok (.d d) ⟨s2.v, s2.m.set n (.l ys)⟩
        | none => .bad
      | _ => .bad
    | _ => .bad
  | _ => .bad
def fRev : List D → List D → Option (D × List D)
  | xs, [] => some (.none, xs.reverse)
  | _, _ => none
def fClr : List D → List D → Option (D × List D)
  | _, [] => some (.none, [])
  | _, _ => none
/-- xs[i] = e -/
def cPutL (co ci cw : CE) : CS := fun s => (cv cw s).out fun v s1 => (cv co s1).out fun o s2 => (cv ci s2).out fun i s3 => match v, o, i with
  | .d v, .ref n, .d (.int k) => match s3.m[n]? with
    | some (.l xs) => match ixN xs.length k with
      | some j => .nx ⟨s3.v, s3.m.set n (.l (xs.set j v))⟩
      | none => .bad
    | _ => .bad
  | _, _, _ => .bad
theorem s_putL {o i e : Expr} {co ci ce : CE} {pos' pos : Pos} (ho : Ex X ec W o co) (hi : Ex X ec W i ci) (he : Ex X ec W e ce) (hs : swapsWithSole [.Subscript o i pos'] e pos.line X.env = pure false := by rfl) (hw : swappedStores [.Subscript o i pos'] e X.env = pure none := by rfl) (h1 : (assignEach [.Subscript o i pos'] X.env).map (·.2) = [assign (.Subscript o i pos') X.env] := by rfl)
    (ha : ∀ v, assign (.Subscript o i pos') X.env v = (do
      let ov ← holding [v] (eval o X.env)
      let iv ← holding [v, ov] (eval i X.env)
      standAt pos'
      holding [v, ov, iv] (setItem ov iv v)
      release [v, ov, iv] []) := by intro _; rfl) : Sx X ec W (.Assign [.Subscript o i pos'] e pos) (cPutL co ci ce) :=
  (ps_asg he (pg_sub ho hi set_list ha) hs hw h1).imp fun D σ H h => by
    obtain ⟨w, s, rfl, hr, h⟩ := h
    refine run_ev hr h fun xv w1 s1 v le1 r1 o1 hn1 h1 => ?_
    refine run_ev r1 (h1.le le1) fun xo w2 s2 o le2 r2 o2 hn2 h2 => ?_
    refine run_ev r2 (h2.le le2) fun xi w3 s3 i le3 r3 o3 hn3 h3 => ?_
    split at h3
    · rename_i d n k
      split at h3
      · rename_i xs em
        split at h3
        · rename_i j ej
          obtain ⟨p, rfl, hp⟩ := o2
          have o3 : Rp X.K w3.G xi (.int k) := o3
          cases o3
          have hp3 := le3.cell hp
          obtain ⟨hg, vs, hv, ra⟩ := r3.mem.cell n p _ hp3 em
          have rd' : Rp X.K w3.G xv d := Rp.mono (le2.trans le3).g _ _ o1
          obtain ⟨r4, le4⟩ := cell_set (c := .l (xs.set j d)) (o := .lst (vs.set j xv)) r3 hp3 hg ⟨hg, _, upd_same, ra.set rd' j⟩
          refine ⟨p, vs, k, j, rfl, rfl, hv, by rw [ra.length]; exact ej, ?_⟩
          exact h3 σ ⟨w3.G, w3.r, w3.F, upd w3.H p (.lst (vs.set j xv))⟩ (le3.trans le4) r4
        · exact h3.elim
      · exact h3.elim
    · exact h3.elim
/-! ### comprehensions -/
def R.nx {α : Type} : R α → R α
  | .ex _ _ => .bad
  | r => r
def wipeV (v : List Sl) : List Nat → List Sl
  | [] => v
  | i :: is => (wipeV v is).set i .u
abbrev W0 : WX := fun _ _ _ _ => False
def ctYes : CT := fun s => .ok true s
/-- the turns: what was kept so far, what is to come -/
def lcL (own : List Nat) (v0 : List Sl) (tg : Tg) (tt : CT) (el : CE) : List D → List D → List Cell → R Rv
  | [], acc, m => .ok (.new (.l acc)) ⟨v0, m⟩
  | d :: ds, acc, m => match tg d ⟨wipeV v0 own, m⟩ with
    | none => .bad
    | some s1 => (tt s1).nx.bind fun b s2 => if b = true then ((cv el s2).nx.bind fun a s3 => match a with
        | .d x => lcL own v0 tg tt el ds (acc ++ [x]) s3.m
        | _ => .bad) else lcL own v0 tg tt el ds acc s2.m
def cLc (own : List Nat) (ci : CI) (tg : Tg) (tt : CT) (el : CE) : CE := fun s => (ci s).bind fun ds s1 => if ds.length ≤ 16000000 then lcL own s1.v tg tt el ds [] s1.m else .bad
theorem rel_wipe {K : Fg} {w : Wd} {σ : L2.St} {v : List Sl} {m : List Cell} (r : Rel ec K w σ ⟨v, m⟩) : ∀ own : List Nat, Rel ec K w (wipe σ own) ⟨wipeV v own, m⟩
  | [] => r
  | i :: is => by
    have q := rel_wipe r is
    refine ⟨q.mem, by show ((wipe σ is).set i none).length = ((wipeV v is).set i .u).length; rw [List.length_set, List.length_set]; exact q.len, fun j sl e => ?_⟩
    have e : ((wipeV v is).set i .u)[j]? = some sl := e
    show SlOk ec K w ((wipe σ is).set i none)[j]? sl
    by_cases hj : i = j
    · subst hj
      by_cases hl : i < (wipeV v is).length
      · rw [List.getElem?_set_self hl] at e
        cases e
        trivial
      · rw [List.getElem?_eq_none (by rw [List.length_set]; omega)] at e
        cases e
    · rw [List.getElem?_set_ne hj] at e
      rw [List.getElem?_set_ne hj]
      exact q.slot j sl e
theorem wipe_off {own : List Nat} {σ σ' : L2.St} (h : Off own (wipe σ own) σ') : wipe σ' own = wipe σ own := by
  have key : ∀ (is : List Nat) (τ τ' : L2.St), τ'.length = τ.length → (∀ j, j ∉ is → τ'[j]? = τ[j]?) → wipe τ' is = wipe τ is := by
    intro is τ τ' hl hj
    refine List.ext_getElem? fun j => ?_
    by_cases hm : j ∈ is
    · have go : ∀ (is : List Nat) (τ : L2.St), j ∈ is → (wipe τ is)[j]? = if j < τ.length then some none else none := by
        intro is
        induction is with
        | nil => intro τ h; cases h
        | cons i is ih =>
          intro τ h
          show ((wipe τ is).set i none)[j]? = _
          by_cases hi : i = j
          · subst hi
            by_cases hl : i < τ.length
            · rw [List.getElem?_set_self (by rw [wipe_length]; exact hl), if_pos hl]
            · rw [List.getElem?_eq_none (by rw [List.length_set, wipe_length]; omega), if_neg hl]
          · rw [List.getElem?_set_ne hi]
            refine ih τ ?_
            rcases List.mem_cons.mp h with z | z
            · exact absurd z.symm hi
            · exact z
      rw [go is τ' hm, go is τ hm, hl]
    · rw [wipe_out hm, wipe_out hm]
      exact hj j hm
  have h2 : wipe σ' own = wipe (wipe σ own) own := key own _ _ h.1 h.2
  rw [h2]
  refine key own σ (wipe σ own) (wipe_length _ _) fun j hj => wipe_out hj
theorem t_yes {K : Fg} {σ : L2.St} {H : Hp} {Q : Bool → Hp → Prop} (h : rdT K ec W0 ctYes σ H Q) : tYes σ H Q := by
  obtain ⟨w, s, rfl, hr, h⟩ := h
  exact h w (Le.refl w) hr
theorem ts_nil {X : Cx} : PTs X [] (rdT X.K ec W0 ctYes) := ⟨fun pins s σ H Q I h => pts_nil.run pins s σ H Q I (t_yes h)⟩
theorem lc_read {σ : L2.St} {H : Hp} {Q : VK} {own : List Nat} {ci : CI} {tg : Tg} {tt : CT} {el : CE} (h : rd X.K ec W (cLc own ci tg tt el) σ H Q) :
    tLc (rdI X.K ec W ci) (rdG ec X.K own tg) (rdT X.K ec W0 tt) (rd X.K ec W0 el) own σ H Q := by
  obtain ⟨w, s, rfl, hr, h⟩ := h
  refine ⟨w, s, rfl, hr, ?_⟩
  unfold cLc at h
  cases e0 : ci s with
  | bad => rw [e0] at h; exact h
  | ex n s' => rw [e0] at h; exact h
  | ok ds s0 =>
    rw [e0] at h
    by_cases hz : ds.length ≤ 16000000
    · simp only [R.bind, hz, if_true] at h
      intro J w0 le0 r0 hJ Dp hD
      have h0 : FinV X.K ec W σ Q w0 (lcL own s0.v tg tt el ds [] s0.m) := FinV.le le0 h
      -- what holds between two turns
      refine ⟨fun i m H1 => ∃ w1 m1 acc vs, w1.H = H1 ∧ w1.F = (fun q => w0.F q ∨ q = Dp) ∧ Le w0 (w1.f w0.F) ∧ Rel ec X.K w1 σ ⟨s0.v, m1⟩ ∧ w1.H Dp = some (.lst vs) ∧ RpAll X.K w1.G vs acc ∧ acc.length ≤ i ∧ i + m = ds.length ∧ FinV X.K ec W σ Q w0 (lcL own s0.v tg tt el (ds.drop i) acc m1),
        ⟨ds.length, w0.hold Dp (.lst []), s0.m, [], [], rfl, rfl, Le.hold hD, r0.hold hD, upd_same, .nil, Nat.le_refl _, Nat.zero_add _, h0⟩, fun i m H1 hW => ?_⟩
      obtain ⟨w1, m1, acc, vs, rfl, hF, le1, r1, hd, ra, hacc, hm, h1⟩ := hW
      have r1f : Rel ec X.K (w1.f w0.F) σ ⟨s0.v, m1⟩ := r1.f (fun q hq => r1.mem.fo q (by rw [hF]; exact .inl hq)) (r0.mem.tab.back r1.mem.tab) fun q hq => r1.mem.nv.2 q (by rw [hF]; exact .inl hq)
      obtain ⟨hgo, hst⟩ := hJ (w1.f w0.F) le1 r1.mem.ext i
      have gD : w1.G Dp = none := (r1.mem.fo Dp (by rw [hF]; exact .inr rfl)).1
      have rD : Dp ∉ w1.r := (r1.mem.fo Dp (by rw [hF]; exact .inr rfl)).2.1
      have fD : ¬ w0.F Dp := fun z => by
        obtain ⟨_, _, o, ho⟩ := r0.mem.fo Dp z
        rw [hD] at ho
        cases ho
      by_cases hi : i < ds.length
      · have hdi : ds[i]? = some ds[i] := List.getElem?_eq_getElem hi
        obtain ⟨g1, g2⟩ := hgo _ hdi
        rw [List.drop_eq_getElem_cons hi] at h1
        unfold lcL at h1
        refine .inr ⟨g1, fun H' => ∃ w' m' acc' vs', w'.H = H' ∧ w'.F = (fun q => w0.F q ∨ q = Dp) ∧ Le w0 (w'.f w0.F) ∧ Rel ec X.K w' σ ⟨s0.v, m'⟩ ∧ w'.H Dp = some (.lst vs') ∧ RpAll X.K w'.G vs' acc' ∧ acc'.length ≤ i + 1 ∧ (i + 1) + (m - 1) = ds.length ∧ FinV X.K ec W σ Q w0 (lcL own s0.v tg tt el (ds.drop (i + 1)) acc' m'),
          fun H' ⟨w', m', acc', vs', a1, a2, a3, a4, a5, a6, a7, a8, a9⟩ => ⟨m - 1, by omega, w', m', acc', vs', a1, a2, a3, a4, a5, a6, a7, a8, a9⟩, fun x H' hy => ?_⟩
        obtain ⟨w2, gr, rfl, rp⟩ := g2 x H' hy
        have gr' : Gr w1 (w2.f w1.F) := ⟨gr.r, rfl, gr.g, gr.h, gr.e, gr.n, gr.t⟩
        have r2 : Rel ec X.K (w2.f w1.F) σ ⟨s0.v, m1⟩ := r1.grow gr'
        cases et : tg ds[i] ⟨wipeV s0.v own, m1⟩ with
        | none => rw [et] at h1; exact h1.elim
        | some s2 =>
          rw [et] at h1
          refine ⟨w2.f w1.F, ⟨wipeV s0.v own, m1⟩, ds[i], rfl, rel_wipe r2 own, rp, s2, et, fun σ' off r3 => ⟨wipe_off off, ?_⟩⟩
          dsimp only at h1
          -- the test
          refine ⟨w2.f w1.F, s2, rfl, r3, ?_⟩
          cases ett : tt s2 with
          | bad => rw [ett] at h1; exact h1.elim
          | ex n s' => rw [ett] at h1; exact h1.elim
          | ok b s3 =>
            rw [ett] at h1
            intro w3 le3 r4
            have hF3 : w3.F = (fun q => w0.F q ∨ q = Dp) := by rw [le3.s, ← hF]
            have lw3 : Le w0 (w3.f w0.F) := (le1.trans (gr'.le.ch w0.F)).trans (le3.ch w0.F)
            have d2 : (w2.f w1.F).H Dp = some (.lst vs) := gr.h _ _ hd
            have d3 : w3.H Dp = some (.lst vs) := le3.kN (p := Dp) d2 (by
              show Dp ∉ w2.r
              rw [gr.r]
              exact rD) noTb_l
            have ra3 : RpAll X.K w3.G vs acc := ra.mono (gr'.g.trans le3.g)
            have r4' : Rel ec X.K w3 σ ⟨s0.v, s3.m⟩ := rel_mem (m := m1) le3 r2 r4.mem
            cases b with
            | false =>
              rw [if_neg Bool.false_ne_true]
              simp only [R.nx, R.bind, Bool.false_eq_true, if_false] at h1
              exact ⟨w3, s3.m, acc, vs, rfl, hF3, lw3, r4', d3, ra3, by omega, by omega, h1⟩
            | true =>
              rw [if_pos rfl]
              simp only [R.nx, R.bind, if_true] at h1
              refine ⟨w3, s3, rfl, r4, ?_⟩
              unfold cv at h1
              cases eel : el s3 with
              | bad => simp only [eel, R.bind] at h1; exact h1.elim
              | ex n s' => simp only [eel, R.bind] at h1; exact h1.elim
              | ok a s4 =>
                simp only [eel, R.bind] at h1
                intro y w4 le4 r5 oa fr
                -- the element became data
                have go : ∀ (d : D) (w5 : Wd), w5.H = w4.H → Le w3 w5 → Rel ec X.K w5 σ' s4 → Rp X.K w5.G y d → FinV X.K ec W σ Q w0 (lcL own s0.v tg tt el (ds.drop (i + 1)) (acc ++ [d]) s4.m) → ∃ acc', w4.H Dp = some (.lst acc') ∧ acc'.length < sizeLine ∧ ∃ w' m' acc'' vs', w'.H = upd w4.H Dp (.lst (acc' ++ [y])) ∧ w'.F = (fun q => w0.F q ∨ q = Dp) ∧ Le w0 (w'.f w0.F) ∧ Rel ec X.K w' σ ⟨s0.v, m'⟩ ∧ w'.H Dp = some (.lst vs') ∧ RpAll X.K w'.G vs' acc'' ∧ acc''.length ≤ i + 1 ∧ (i + 1) + (m - 1) = ds.length ∧ FinV X.K ec W σ Q w0 (lcL own s0.v tg tt el (ds.drop (i + 1)) acc'' m') := by
                  intro d w5 eH le5 r6 rpd h4
                  have hF5 : w5.F = (fun q => w0.F q ∨ q = Dp) := by rw [le5.s, hF3]
                  have d5 : w5.H Dp = some (.lst vs) := le5.kN d3 (r4'.mem.fo Dp (by rw [hF3]; exact .inr rfl)).2.1 noTb_l
                  have ra5 : RpAll X.K w5.G vs acc := ra3.mono le5.g
                  have r6' : Rel ec X.K w5 σ ⟨s0.v, s4.m⟩ := rel_mem (m := s3.m) le5 r4' r6.mem
                  have fD5 : w5.F Dp := by rw [hF5]; exact .inr rfl
                  have r7 := r6'.rehold (o := .lst (vs ++ [y])) fD5 d5 noTb_l (fun _ z => by cases z) (r0.new0 hD)
                  have lw5 : Le w0 (w5.f w0.F) := lw3.trans (le5.ch w0.F)
                  have lw7 : Le w0 ((⟨w5.G, w5.r, w5.F, upd w5.H Dp (.lst (vs ++ [y]))⟩ : Wd).f w0.F) := ⟨lw5.g, fun q u e n => by
                    obtain ⟨u', e', q'⟩ := lw5.k q u e n
                    refine ⟨u', ?_, q'⟩
                    show upd w5.H Dp _ q = some u'
                    rw [upd_ne (ne_of_none e hD)]
                    exact e', lw5.p, lw5.f, rfl⟩
                  rw [← eH]
                  refine ⟨vs, d5, ?_, ⟨w5.G, w5.r, w5.F, upd w5.H Dp (.lst (vs ++ [y]))⟩, s4.m, acc ++ [d], vs ++ [y], rfl, hF5, lw7, r7, upd_same, ra5.append (.cons rpd .nil), ?_, by omega, h4⟩
                  · rw [ra5.length]
                    exact lt16 (by omega)
                  · rw [List.length_append]
                    show acc.length + 1 ≤ i + 1
                    omega
                cases a with
                | ref n => exact h1.elim
                | t _ _ => exact h1.elim
                | d d => exact go d w4 rfl le4 r5 oa h1
                | new c =>
                  cases ed : c.D? with
                  | none => simp only [ed] at h1; exact h1.elim
                  | some d =>
                    simp only [ed] at h1
                    obtain ⟨G', r6, le6, rp6⟩ := freeze r5 oa (d := d) ed
                    exact go d ⟨G', w4.r, w4.F, w4.H⟩ rfl (le4.trans le6) r6 rp6 h1
      · refine .inl ⟨hst (by omega), ?_⟩
        rw [List.drop_eq_nil_of_le (by omega)] at h1
        exact h1 (.ref Dp) (w1.f w0.F) le1 r1f ⟨Dp, rfl, ⟨rD, fD⟩, gD, vs, hd, ra⟩ fun _ _ p e => by
          cases e
          exact hD
    · simp only [R.bind, hz, if_false] at h
      exact h.elim
theorem e_lc {elt tgt iter : Expr} {ifs : List Expr} {scope : Scope} {own : List (Str × Nat)} {pos : Pos} {ci : CI} {tg : Tg} {tt : CT} {el : CE} (hN : X.N.Nodup) (ok : BlkOk X.N X.env.scope scope own) (hi : Ix X ec W tgt iter ci)
    (hg : ∀ (s : Shared) (H : Hp) (C : Addr) (cl : List (Str × Addr)) (fp : List Addr), PG (X.blk s H scope (compEnvC scope cl C X.env) fp) tgt (rdG ec X.K (own.map (·.2)) tg))
    (ht : ∀ (s : Shared) (H : Hp) (C : Addr) (cl : List (Str × Addr)) (fp : List Addr), PTs (X.blk s H scope (compEnvC scope cl C X.env) fp) ifs (rdT X.K ec W0 tt))
    (he : ∀ (s : Shared) (H : Hp) (C : Addr) (cl : List (Str × Addr)) (fp : List Addr), PE (X.blk s H scope (compEnvC scope cl C X.env) fp) elt (rd X.K ec W0 el)) (hcal : X.calm = true := by rfl) (hs : ∀ x, foldedSetIterable iter X.env x = pure x := by intro _; rfl) :
    Ex X ec W (.ListComp elt [⟨tgt, iter, ifs, 0⟩] scope pos) (cLc (own.map (·.2)) ci tg tt el) := (pe_lc hcal hN hi ok hg ht he hs).imp fun σ H Q h => lc_read h
end
end Vm
namespace Vm
open PySem L2
section
variable {X : Cx} {ec : EC} {W : WX}
/-! ### slices -/
def cutD {α : Type} (xs : List α) (lo hi : Option Int) : List α := (xs.drop (HT.sIx xs.length 0 lo)).take (HT.sIx xs.length xs.length hi - HT.sIx xs.length 0 lo)
theorem rp_cut {K : Fg} {G : Hp} {vs : List V} {ds : List D} (lo hi : Option Int) (h : RpAll K G vs ds) : RpAll K G (cutV vs lo hi) (cutD ds lo hi) := by
  unfold cutV cutD
  rw [h.length]
  exact (h.drop _).take _
theorem SlR.or {r r' : V → Option Int → Option Int → Hp → VK → Prop} (h : SlR X r) (h' : SlR X r') : SlR X (fun x lo hi H Q => r x lo hi H Q ∨ r' x lo hi H Q) := by
  intro pins s σ H x v vl vu lo hi sl Q I rx hs pl pu hh
  rcases hh with hh | hh
  · exact h pins s σ H x v vl vu lo hi sl Q I rx hs pl pu hh
  · exact h' pins s σ H x v vl vu lo hi sl Q I rx hs pl pu hh
def rSlV (K : Fg) : V → Option Int → Option Int → Hp → VK → Prop := fun x lo hi H Q => rSlL K x lo hi H Q ∨ rSlA K x lo hi H Q
theorem slr_V : SlR X (rSlV X.K) := SlR.or sl_list sl_tupA
def opSl : Od → Option Int → Option Int → Option Rv
  | .d (.list ds), lo, hi => some (.new (.l (cutD ds lo hi)))
  | .d (.tuple ds), lo, hi => some (.d (.tuple (cutD ds lo hi)))
  | _, _, _ => none
theorem cut_whole {α : Type} {xs : List α} {lo hi : Option Int} (h : HT.sIx xs.length 0 lo = 0 ∧ HT.sIx xs.length xs.length hi = xs.length) : cutD xs lo hi = xs := by
  unfold cutD
  rw [h.1, h.2, List.drop_zero, Nat.sub_zero, List.take_length]
theorem s_sl {K : Fg} {w : Wd} {x : V} {o : Od} {lo hi : Option Int} {rv : Rv} {Q : VK} (hx : Same w.G w.H) (h : OdOk K w x o) (e : opSl o lo hi = some rv) (q : Post K w rv Q) : rSlV K x lo hi w.H Q := by
  unfold opSl at e
  split at e
  · cases e
    obtain ⟨p, vs, rfl, hs, ra⟩ := h.list hx
    exact .inl ⟨p, vs, rfl, hs, fun a ha => post_lst q (rp_cut lo hi ra) ha hx⟩
  · cases e
    obtain ⟨p, vs, rfl, hs, ra⟩ := h.tup
    refine .inr ⟨p, vs, rfl, SqT.of (hx _ _ hs), fun hw => ?_, fun hw a ha => post_tup q (rp_cut lo hi ra) ha hx⟩
    rw [ra.length] at hw
    rw [cut_whole hw] at q
    exact post_d q (.tup hs ra)
  · cases e
def cI (c : CE) : S → R Int := fun s => (cv c s).bind fun a s1 => match a with
  | .d (.int i) => .ok i s1
  | _ => .bad
def cPt : Option CE → S → R (Option Int)
  | none => fun s => .ok none s
  | some c => fun s => (cI c s).bind fun i s1 => .ok (some i) s1
def rdO (K : Fg) (ec : EC) (W : WX) (c : S → R (Option Int)) : TO := fun σ H Q => ∃ w s, w.H = H ∧ Rel ec K w σ s ∧ Res (fun o s' => ∀ w', Le w w' → Rel ec K w' σ s' → Q o w'.H) (okE K ec W σ w) (c s)
theorem PO.imp {e : Option Expr} {t t' : TO} (h : PO X e t) (i : ∀ σ H Q, t' σ H Q → t σ H Q) : PO X e t' := ⟨fun pins s σ H Q I q => h.run pins s σ H Q I (i _ _ _ q)⟩
theorem o_none : PO X none (rdO X.K ec W (cPt none)) := PO.imp po_none fun σ H Q h => by
  obtain ⟨w, s, rfl, hr, h⟩ := h
  exact h w (Le.refl w) hr
theorem run_i {K : Fg} {σ : L2.St} {w : Wd} {s : S} {α : Type} {c : CE} {k : Int → S → R α} {P : α → S → Prop} {Q : VK} (hr : Rel ec K w σ s) (h : Res P (okE K ec W σ w) ((cI c s).bind k))
    (hk : ∀ i w1 s1, Le w w1 → Rel ec K w1 σ s1 → Res P (okE K ec W σ w) (k i s1) → Q (.int i) w1.H) : rd K ec W c σ w.H Q := by
  have h' : Res P (okE K ec W σ w) ((cv c s).bind fun a s1 => (match a with
    | .d (.int b) => R.ok b s1
    | _ => R.bad).bind k) := by
    unfold cI at h
    cases e : cv c s with
    | bad => rw [e] at h; exact h
    | ex n s' => rw [e] at h; exact h
    | ok a s' => rw [e] at h; exact h
  refine run_cv hr h' fun x w1 s1 a le1 hr1 ha hn h1 => ?_
  cases a with
  | ref n => exact h1.elim
  | t _ _ => exact h1.elim
  | new c => exact h1.elim
  | d y =>
    cases y with
    | int b =>
      have e : x = .int b := by
        have ha : Rp K w1.G x (.int b) := ha
        cases ha
        rfl
      rw [e]
      exact hk b w1 s1 le1 hr1 h1
    | none => exact h1.elim
    | bool _ => exact h1.elim
    | str _ => exact h1.elim
    | list _ => exact h1.elim
    | tuple _ => exact h1.elim
    | dict _ => exact h1.elim
theorem o_some {e : Expr} {c : CE} (h : Ex X ec W e c) : PO X (some e) (rdO X.K ec W (cPt (some c))) := PO.imp (po_some h) fun σ H Q h => by
  obtain ⟨w, s, rfl, hr, h⟩ := h
  exact run_i hr h fun i w1 s1 le1 r1 h1 => ⟨i, rfl, h1 w1 le1 r1⟩
def cSl (c : CE) (lo hi : S → R (Option Int)) : CE := fun s => (cv c s).bind fun a s1 => (lo s1).bind fun l s2 => (hi s2).bind fun u s3 => opt (a.od s3.m) fun o => opt (opSl o l u) fun rv => .ok rv s3
theorem run_o {K : Fg} {σ : L2.St} {w : Wd} {s : S} {α : Type} {c : S → R (Option Int)} {k : Option Int → S → R α} {P : α → S → Prop} {Q : Option Int → Hp → Prop} (hr : Rel ec K w σ s) (h : Res P (okE K ec W σ w) ((c s).bind k))
    (hk : ∀ b w1 s1, Le w w1 → Rel ec K w1 σ s1 → Res P (okE K ec W σ w) (k b s1) → Q b w1.H) : rdO K ec W c σ w.H Q := by
  refine ⟨w, s, rfl, hr, ?_⟩
  cases e : c s with
  | bad => rw [e] at h; exact h
  | ex n s' => rw [e] at h; exact h
  | ok b s' =>
    rw [e] at h
    exact fun w' le r' => hk b w' s' le r' h
theorem e_sl {e : Expr} {lo hi : Option Expr} {c : CE} {cl ch : S → R (Option Int)} {p2 pos : Pos} (he : Ex X ec W e c) (hl : PO X lo (rdO X.K ec W cl)) (hh : PO X hi (rdO X.K ec W ch)) : Ex X ec W (.Subscript e (.Slice lo hi none p2) pos) (cSl c cl ch) :=
  (pe_slice slr_V he hl hh).imp fun σ H Q h => by
    obtain ⟨w, s, rfl, hr, h⟩ := h
    refine run_cv hr h fun x w1 s1 a le1 r1 ha hn h1 => ?_
    refine run_o r1 (Res.mono h1 (fun _ _ q => q) fun _ _ q => okE_le le1 q) fun l w2 s2 le2 r2 h2 => ?_
    refine run_o r2 (Res.mono h2 (fun _ _ q => q) fun _ _ q => okE_le le2 q) fun u w3 s3 le3 r3 h3 => ?_
    obtain ⟨o, e1, h4⟩ := h3.opt
    obtain ⟨rv, e2, h5⟩ := h4.opt
    exact s_sl r3.mem.ext (od_of r3 (ha.le hn (le2.trans le3)) e1) e2 (post_of r3 fun z w' le r' o f => h5 z w' (((le1.trans le2).trans le3).trans le) r' o (f.back ((le1.trans le2).trans le3) le o))
/-! ### a < b < c -/
def cChain (f g : Od → Od → Option Rv) (a b c : CE) : CE := fun s => (cv a s).bind fun x s1 => (cv b s1).bind fun y s2 => opt (x.od s2.m) fun o => opt (y.od s2.m) fun o' => opt (f o o') fun rv => match rv with
  | .d (.bool true) => (cv c s2).bind fun z s3 => opt (y.od s3.m) fun p => opt (z.od s3.m) fun p' => opt (g p p') fun rv' => .ok rv' s3
  | .d (.bool false) => .ok (.d (.bool false)) s2
  | _ => .bad
theorem chain_rd {ca cb cc : CE} {r r' : R2} {f g : Od → Od → Option Rv} {σ : L2.St} {H : Hp} {Q : VK} (hs : Op2S X.K r f) (hs' : Op2S X.K r' g) (h : rd X.K ec W (cChain f g ca cb cc) σ H Q) : tChain r r' (rd X.K ec W ca) (rd X.K ec W cb) (rd X.K ec W cc) σ H Q := by
  obtain ⟨w, s, rfl, hr, h⟩ := h
  refine run_cv hr h fun x w1 s1 a le1 hr1 ha hn h1 => ?_
  refine run_cv hr1 (Res.mono h1 (fun _ _ q => q) fun _ _ q => okE_le le1 q) fun y w2 s2 b le2 hr2 hb hn2 h2 => ?_
  obtain ⟨o, e1, h2⟩ := h2.opt
  obtain ⟨o', e2, h2⟩ := h2.opt
  obtain ⟨rv, e3, h3⟩ := h2.opt
  refine hs w2 x y o o' rv _ hr2.mem.ext (od_of hr2 (ha.le hn le2) e1) (od_of hr2 hb e2) e3 fun z w3 gr rn => ?_
  have hr3 := hr2.grow gr
  have le3 := gr.le
  split at h3
  · have rn : Rp X.K w3.G z (.bool true) := rn
    cases rn
    refine ⟨true, rfl, iteT ?_⟩
    refine run_cv hr3 (Res.mono h3 (fun _ _ q => q) fun _ _ q => okE_le (le2.trans le3) q) fun z w4 s4 d le4 hr4 hd hn4 h4 => ?_
    obtain ⟨p, e4, h4⟩ := h4.opt
    obtain ⟨p', e5, h4⟩ := h4.opt
    obtain ⟨rv', e6, h5⟩ := h4.opt
    exact hs' w4 y z p p' rv' Q hr4.mem.ext (od_of hr4 (hb.le hn2 (le3.trans le4)) e4) (od_of hr4 hd e5) e6 (post_of hr4 fun z w' le r' o f => h5 z w' ((((le1.trans le2).trans le3).trans le4).trans le) r' o (f.back (((le1.trans le2).trans le3).trans le4) le o))
  · have rn : Rp X.K w3.G z (.bool false) := rn
    cases rn
    exact ⟨false, rfl, iteF (h3 (.bl false) w3 ((le1.trans le2).trans le3) hr3 (.bl false) .d)⟩
  · exact h3.elim
theorem t_chain {op op' : CmpOp} {a b c : Expr} {ca cb cc : CE} {r r' : R2} {f g : Od → Od → Option Rv} {pos : Pos} (ho : OpR X (compareOp op) r) (ho' : OpR X (compareOp op') r') (hs : Op2S X.K r f) (hs' : Op2S X.K r' g) (ha : Ex X ec W a ca) (hb : Ex X ec W b cb) (hc : Ex X ec W c cc)
    (hm : lastMarks [op, op'] [b, c] = false := by with_unfolding_all rfl) : Tx X ec W (.Compare a [op, op'] [b, c] pos) (cB (cChain f g ca cb cc)) := (pt_chain ho ho' ha hb hc hm).imp fun σ H Q h => chain_rd hs hs' (cB_rd h)
end
end Vm
namespace Vm
open PySem L2 PySem.Spec PyProof.Rows
/-! ### defs of the text and their promises -/
structure DefF (K : Fg) (mg : Str → Option Value) (x : Str) (st : Stmt) (ps : List Str) : Prop where
  ex : ∃ f fd, Fun K x x st f fd ∧ mg x = some (.ref f) ∧ ∀ us : List Value, us.length = ps.length → bindArgs fd ⟨us, []⟩ = pure (ps.zip us)
theorem defF_mk {K : Fg} {mg : Str → Option Value} {x : Str} {st : Stmt} {ps : List Str} {f : Addr} {oc : Value} {od an : Option Addr} {osl : Array (Option Value)} {kV doc pm cdv ct : Value} (hm : mg x = some (.ref f))
    (l : K.lookup f = some ⟨oc, od, .func (PySem.W.fnOf x x (defArgs st) (defBody st) (defScope st) .none kV doc pm an cdv ct), osl⟩) (c : PySem.W.codeIn K cdv x = true) (k : PySem.W.keepIn K (.ref f) = true)
    (h : ∀ (kV doc pm : Value) (an : Option Addr) (cdv ct : Value) (us : List Value), us.length = ps.length → bindArgs (PySem.W.fnOf x x (defArgs st) (defBody st) (defScope st) .none kV doc pm an cdv ct) ⟨us, []⟩ = pure (ps.zip us)) : DefF K mg x st ps :=
  ⟨f, _, fun_mk l c k, hm, h _ _ _ _ _ _⟩
def Cal (P : Program) (wo : World) (K : Fg) (mg : Str → Option Value) (base : Heap) (ec : EC) (x : Str) (ps : List Str) (f : Fn) (k : Nat) : Prop :=
  ∃ fa fd oc od osl, K.lookup fa = some ⟨oc, od, .func fd, osl⟩ ∧ FnG P wo K mg base k fa fd ps (spF K ec ps.length f) ∧ mg x = some (.ref fa) ∧ PySem.W.keepIn K (.ref fa) = true ∧ Binds K fd ps []
section
variable {P : Program} {wo : World} {K : Fg} {mg : Str → Option Value} {base : Heap} {ec : EC} {x : Str} {st : Stmt} {ps : List Str} {k : Nat} {f : Fn}
theorem DefF.cal (D : DefF K mg x st ps) (h : ∀ {fa : Addr} {fd : FuncData}, Fun K x x st fa fd → FnG P wo K mg base k fa fd ps (spF K ec ps.length f)) : Cal P wo K mg base ec x ps f k := by
  obtain ⟨fa, fd, F, hm, hb⟩ := D.ex
  obtain ⟨oc, od, kV, doc, pm, an, cdv, ct, osl, e, lk, _⟩ := F.ex
  exact ⟨fa, fd, oc, od, osl, lk, h F, hm, F.kp, .all hb⟩
end
section
variable {X : Cx} {ec : EC} {W : WX}
theorem e_callC {k : Nat} {ps : List Str} {f : Fn} {x : Str} {p pos : Pos} {e : Expr} {es : List Expr} {cl : CL} (C : Cal X.prog X.w X.K X.mg X.base ec x ps f k) (hr : Rg k X.A)
    (tk : Takes X W) (ha : PA X (e :: es) (rdL X.K ec W cl)) (hl : LLen ps.length cl) (hg : Gl X x := by rfl) (hdb : (x == ("__debug__" : Str)) = false := by decide) (he : starEach (e :: es) X.env = (false, eval e X.env) :: starEach es X.env := by rfl)
    (hpl : (backTo pos (starEach es X.env)).any (·.1) = false := by rfl) : Ex X ec W (.Call (.Name x p) (e :: es) [] pos) (cCall f cl) := by
  obtain ⟨fa, fd, oc, od, osl, lk, F, hm, hk, hb⟩ := C
  exact e_call F hr hm hk hb tk ha hl hg hdb he hpl
/-- a call that is handed data alone: it runs by itself, our cells held back -/
def Sl.isD : Sl → Bool
  | .d _ => true
  | _ => false
def RF.pure (s : S) : RF → R Rv
  | .ok (.d x) _ => .ok (.d x) s
  | .ok (.new c) _ => .ok (.new c) s
  | .ex e _ => .ex e s
  | _ => .bad
def cCallP (f : Fn) (cl : CL) : CE := fun s => (cl s).bind fun as s1 => if as.all Sl.isD = true then (f as []).pure s1 else .bad
theorem args_data {K : Fg} {w w' : Wd} (g : w.G = w'.G) {vs : List V} {as : List Sl} (h : ArgsOk ec K w vs as) : as.all Sl.isD = true → ArgsOk ec K w' vs as := by
  induction h with
  | nil => exact fun _ => .nil
  | cons r t ih =>
    intro hd
    rw [List.all_cons, Bool.and_eq_true] at hd
    refine .cons ?_ (ih hd.2)
    rename_i v sl vs as
    cases sl with
    | u => trivial
    | d x =>
      obtain ⟨u, e, q⟩ := r
      exact ⟨u, e, g ▸ q⟩
    | c n => exact absurd hd.1 (by simp [Sl.isD])
    | x n => exact absurd hd.1 (by simp [Sl.isD])
    | f => exact absurd hd.1 (by simp [Sl.isD])
    | f2 => exact absurd hd.1 (by simp [Sl.isD])
    | t _ _ => exact absurd hd.1 (by simp [Sl.isD])
theorem nv_back {w1 w' : Wd} {m : List Cell} {G : Hp} (hk : ∀ a o, w1.H a = some o → ∃ o', w'.H a = some o' ∧ (NoTb o → o' = o)) (h : NV ec w1 m) (hf : ∀ p, w1.F p → p ∈ ec.T.map (·.1) ∨ ∃ o, w'.H p = some o ∧ NoTb o ∧ NoTup o) : NV ec ⟨G, w1.r, w1.F, w'.H⟩ m := by
  refine ⟨fun t q n j ds e1 e2 => ?_, hf⟩
  obtain ⟨h1, h2⟩ := h.1 t q n j ds e1 e2
  refine ⟨h1, fun p' ks e3 e4 => ?_⟩
  obtain ⟨ws, k, e5, e6⟩ := h2 p' ks e3 e4
  obtain ⟨o', e7, z⟩ := hk p' _ e5
  exact ⟨ws, k, by rw [z noTb_t] at e7; exact e7, e6⟩
theorem mem_out {K : Fg} {w1 w' : Wd} {σ : L2.St} {s : S} {m' : List Cell} (r1 : Rel ec K w1 σ s) (le : Le ⟨w1.G, [], fun p => w1.F p ∨ (p ∈ w1.r ∧ w1.G p = none), w1.H⟩ w') (mm : Mem ec K w' m') : Rel ec K ⟨w'.G, w1.r, w1.F, w'.H⟩ σ s ∧ Le w1 ⟨w'.G, w1.r, w1.F, w'.H⟩ := by
  have hk : ∀ a o, w1.H a = some o → ∃ o', w'.H a = some o' ∧ (NoTb o → o' = o) := fun a o e => le.k a o e (by simp)
  have le' : Le w1 ⟨w'.G, w1.r, w1.F, w'.H⟩ := ⟨le.g, fun a o e _ => hk a o e, List.prefix_refl _, fun _ h => .inl h, rfl⟩
  refine ⟨⟨⟨mm.ext, r1.mem.len, r1.mem.nd, fun n p c h1 h2 => ?_, fun p hp => ?_, r1.mem.tab.back mm.tab, r1.mem.inv.trans (le'.ch _), mm.gt, nv_back hk r1.mem.nv fun p hp => mm.nv.2 p (by rw [le.s]; exact .inl hp)⟩, r1.len, fun i sl e => slOk_mono le' (r1.slot i sl e)⟩, le'⟩
  · have c0 := r1.mem.cell n p c h1 h2
    refine cOk_mono le.g (fun hc => ?_) (fun o hc e => ?_) c0
    rotate_left
    · obtain ⟨o', e1, q⟩ := hk p o e
      have hn : NoTb o := by
        cases c with
        | l ds =>
          obtain ⟨_, vs, hv, _⟩ := c0
          rw [hv] at e
          cases e
          exact noTb_l
        | k kvs =>
          obtain ⟨_, vs, hv, _⟩ := c0
          rw [hv] at e
          cases e
          exact noTb_k
        | t kvs =>
          obtain ⟨_, vs, hv, _⟩ := c0
          rw [hv] at e
          cases e
          exact noTb_t
        | r kvs =>
          obtain ⟨_, vs, hv, _⟩ := c0
          rw [hv] at e
          cases e
          exact noTb_t
        | i n' j' kvs =>
          obtain ⟨_, vs, hv, _⟩ := c0
          rw [hv] at e
          cases e
          exact noTb_l
        | g x =>
          obtain ⟨_, o1, hv, q1⟩ := c0
          rw [hv] at e
          cases e
          exact q1.ntb
        | gone => exact absurd rfl hc
      rw [e1, q hn]
    have hg : w1.G p = none := by
      cases c with
      | l ds => exact c0.1
      | k kvs => exact c0.1
      | t kvs => exact c0.1
      | r ks => exact c0.1
      | i n' j' ds => exact c0.1
      | g x => exact c0.1
      | gone => exact absurd rfl hc
    exact (mm.fo p (by rw [le.s]; exact .inr ⟨List.mem_of_getElem? h1, hg⟩)).1
  · obtain ⟨a, b, c⟩ := mm.fo p (by rw [le.s]; exact .inl hp)
    exact ⟨a, (r1.mem.fo p hp).2.1, c⟩
/-- a start: what is there stays -/
structure Bas (b : Wd) : Prop where
  r : b.r = []
  g : ∀ a o, b.H a = some o → b.G a = some o
theorem bas_bot : Bas bot := ⟨rfl, fun _ _ e => e⟩
theorem Bas.le {b w : Wd} (h : Bas b) (g : Same b.G w.G) (e : Same w.G w.H) (hr : w.r = []) : Le b (w.f b.F) :=
  ⟨g, fun a o x _ => ⟨o, e _ _ (g _ _ (h.g a o x)), fun _ => rfl⟩, by rw [h.r]; exact List.nil_prefix, (fun p hp => absurd (show p ∈ w.r from hp) (by rw [hr]; exact List.not_mem_nil)), rfl⟩
theorem e_callP {k : Nat} {ps : List Str} {f : Fn} {x : Str} {p pos : Pos} {e : Expr} {es : List Expr} {cl : CL} (C : Cal X.prog X.w X.K X.mg X.base ec x ps f k) (hr : Rg k X.A)
    (tk : Takes X W) (ha : PA X (e :: es) (rdL X.K ec W cl)) (hl : LLen ps.length cl) (hg : Gl X x := by rfl) (hdb : (x == ("__debug__" : Str)) = false := by decide) (he : starEach (e :: es) X.env = (false, eval e X.env) :: starEach es X.env := by rfl)
    (hpl : (backTo pos (starEach es X.env)).any (·.1) = false := by rfl) (hw : Bas ec.w := by assumption) : Ex X ec W (.Call (.Name x p) (e :: es) [] pos) (cCallP f cl) := by
  obtain ⟨fa, fd, oc, od, osl, lk, F, hm, hk, hb⟩ := C
  exact (pe_callG F hr hg hm hk hb (fun σ => passAt tk σ) ha hdb he hpl).imp fun σ H Q h => by
    obtain ⟨w, s, rfl, hr, h⟩ := h
    refine ⟨w, s, rfl, hr, ?_⟩
    unfold cCallP at h
    cases e1 : cl s with
    | bad => rw [e1] at h; exact h
    | ex n s' => rw [e1] at h; exact h
    | ok as s1 =>
      rw [e1] at h
      intro vs w1 le1 r1 ao
      have h1 : Res (okV ec X.K w σ Q) (okE X.K ec W σ w) (if as.all Sl.isD = true then (f as []).pure s1 else .bad) := h
      by_cases hd : as.all Sl.isD = true
      · rw [if_pos hd] at h1
        refine ⟨by rw [paired_len ao]; exact hl _ _ _ e1, ⟨w1.G, [], fun p => w1.F p ∨ (p ∈ w1.r ∧ w1.G p = none), w1.H⟩, [], as, rfl, ⟨r1.mem.ext, rfl, List.nodup_nil, fun n p c h _ => by simp at h, fun p hp => ?_, r1.mem.tab.f fun _ h => .inl h, hw.le r1.mem.inv.g r1.mem.ext rfl, r1.mem.gt, ⟨fun t q n j ds e1 => by simp at e1, fun p hp => hp.elim (fun hp => r1.mem.nv.2 p hp) fun hp => .inr (by obtain ⟨n, e⟩ := List.getElem?_of_mem hp.1; exact r1.liveT e hp.2)⟩⟩, args_data (w := w1) (w' := ⟨w1.G, [], fun p => w1.F p ∨ (p ∈ w1.r ∧ w1.G p = none), w1.H⟩) rfl ao hd, ?_⟩
        · rcases hp with hp | hp
          · obtain ⟨a, b, c⟩ := r1.mem.fo p hp
            exact ⟨a, by simp, c⟩
          · exact ⟨hp.2, by simp, r1.live hp.1⟩
        · cases e2 : f as [] with
          | bad => rw [e2] at h1; exact h1
          | ex n m' =>
            rw [e2] at h1
            intro w2 le2 m2
            obtain ⟨r3, le3⟩ := mem_out r1 le2 m2
            exact h1 ⟨w2.G, w1.r, w1.F, w2.H⟩ (le1.trans le3) r3
          | ok a m' =>
            rw [e2] at h1
            intro x w2 le2 m2 o fr
            obtain ⟨r3, le3⟩ := mem_out r1 le2 m2
            cases a with
            | ref n => exact h1.elim
            | t _ _ => exact h1.elim
            | d y => exact h1 x ⟨w2.G, w1.r, w1.F, w2.H⟩ (le1.trans le3) r3 o .d
            | new c =>
              obtain ⟨p, ex, ⟨hp1, hp2⟩, hc⟩ := o
              have hf : w1.H p = none := fr c rfl p ex
              have hnr : p ∉ w1.r := fun hm => by
                obtain ⟨o, ho⟩ := r1.live hm
                rw [hf] at ho
                cases ho
              have hnF : ¬ w1.F p := fun hF => hp2 (by rw [le2.s]; exact .inl hF)
              have o3 : RvOk X.K ⟨w2.G, w1.r, w1.F, w2.H⟩ x (.new c) := ⟨p, ex, ⟨hnr, hnF⟩, hc⟩
              have f3 : FrR w1 x (.new c) := fun c' ec p' ep => fr c' ec p' ep
              exact h1 x ⟨w2.G, w1.r, w1.F, w2.H⟩ (le1.trans le3) r3 o3 (FrR.back le1 le3 o3 f3)
      · rw [if_neg hd] at h1
        exact h1.elim
theorem e_globI {x : Str} {i : Int} {pos : Pos} (h : ∃ t, X.mg x = some (.int i t)) (hg : Gl X x := by rfl) (hb : (x == ("__debug__" : Str)) = false := by decide) : Ex X ec W (.Name x pos) (cC (.int i)) := by
  obtain ⟨t, h⟩ := h
  exact e_glob (v := .int i) h ⟨t, rfl⟩ (fun _ => .int i) hg hb
end
/-! ### the law -/
def spLaw (K : Fg) (f : Fn) (T : List (Addr × Str)) : Sp := fun vs H Q E => (∀ q ∈ T, H q.1 = some (.tbl #[]) ∧ K.lookup q.1 = none) ∧ ∃ (a : Addr) (ns : List Int), vs = [.ref a] ∧ SqL K H a (ns.map V.int) ∧ f [.d (.list (ns.map PyData.int))] [] = .ok (.d (.bool true)) [] ∧ ∀ H', Q (.bl true) H'
theorem spLaw_in {K : Fg} {f : Fn} {H : Hp} {a : Addr} {ns : List Int} (hS : SqL K H a (ns.map V.int)) (h : f [.d (.list (ns.map PyData.int))] [] = .ok (.d (.bool true)) []) : spLaw K f [] [.ref a] H (fun v _ => v = .bl true) fun _ _ _ => False :=
  ⟨(fun q hq => nomatch hq), a, ns, rfl, hS, h, fun _ => rfl⟩
theorem cx_none {P : Program} {w : World} {H : Hp} {s : Shared} {e : Value} {s' : Shared} (h : L2.CX P w [] H s (fun _ _ _ => False) e s') : False := by
  obtain ⟨_, _, _, _, _, _, _, _, _, _, _, _, z⟩ := h
  exact z
/-- the ground at the start: all but the tables -/
def gndT (H : Hp) : Hp := fun b => match H b with
  | some (.tbl _) => none
  | x => x
theorem gndT_no {H : Hp} {b : Addr} {o : HO} (h : H b = some o) (n : NoTb o) : gndT H b = some o := by
  unfold gndT
  rw [h]
  split
  · rename_i ps e
    exact absurd (Option.some.inj e) (n ps)
  · rfl
theorem gndT_t {H : Hp} {b : Addr} {ps : Array Value} (h : H b = some (.tbl ps)) : gndT H b = none := by
  unfold gndT
  rw [h]
theorem gndT_of {H : Hp} {b : Addr} {o : HO} (h : gndT H b = some o) : H b = some o ∧ NoTb o := by
  unfold gndT at h
  split at h
  · cases h
  · rename_i x e
    exact ⟨h, fun ps z => e ps (by rw [h, z])⟩
theorem spLaw_spF {K : Fg} {ec : EC} (hw : ec.w = bot) {f : Fn} {vs : List V} {H : Hp} {Q : VK} {E : XK} (h : spLaw K f ec.T vs H Q E) : spF K ec 1 f vs H Q E := by
  obtain ⟨hT, a, ns, rfl, hS, hf, q⟩ := h
  have hS' : SqL K (gndT H) a (ns.map V.int) := by
    rcases hS with (h | ⟨o, h⟩) | h
    · exact .inl (.inl (gndT_no h noTb_l))
    · exact .inl (.inr ⟨o, gndT_no h fun _ z => by cases z⟩)
    · exact .inr h
  refine ⟨rfl, ⟨gndT H, [], fun b => b ∈ ec.T.map (·.1), H⟩, [], [.d (.list (ns.map PyData.int))], rfl, ⟨fun b u e => (gndT_of e).1, rfl, List.nodup_nil, fun n p c h _ => by simp at h, fun p h => ?_, fun q hq => ?_, ?_, fun b o e => (gndT_of e).2, ⟨fun t q n j ds e1 => by simp at e1, fun p hp => .inl hp⟩⟩, .cons ⟨.ref a, rfl, .lst hS' (rpAll_ints ns)⟩ .nil, ?_⟩
  · obtain ⟨q, hq, e⟩ := List.mem_map.mp h
    exact ⟨by rw [← e]; exact gndT_t (hT q hq).1, by simp, _, by rw [← e]; exact (hT q hq).1⟩
  · exact ⟨List.mem_map.mpr ⟨q, hq, rfl⟩, LamX.TabS.nil (hT q hq).1⟩
  · rw [hw]
    exact Le.bot _
  rw [hf]
  intro x w' _ _ hx _
  have hx : Rp K w'.G x (.bool true) := hx
  cases hx
  exact q _
theorem spLaw_of {P : Program} {wo : World} {K : Fg} {mg : Str → Option Value} {ec : EC} (hw : ec.w = bot) {x : Str} {st : Stmt} {k : Nat} {f : Fn} {fa : Addr} (D : DefF K mg x st ["_law_script"]) (hfa : mg x = some (.ref fa))
    (C : ∀ base : Heap, K.In base → base.Ns mainGlobals mg → Cal P wo K mg base ec x ["_law_script"] f k) :
    ∃ fd : FuncData, (∀ (s : Shared) (v : Value), BindsTo s fd ⟨[v], []⟩ [("_law_script", v)]) ∧ ∀ base : Heap, K.In base → base.Ns mainGlobals mg → FnG P wo K mg base k fa fd ["_law_script"] (spLaw K f ec.T) := by
  obtain ⟨fa', fd, F, hm, hb⟩ := D.ex
  rw [hfa] at hm
  cases hm
  obtain ⟨oc, od, kV, doc, pm, an, cdv, ct, osl, e, lk, _⟩ := F.ex
  refine ⟨fd, fun s v => .of_eq (hb [v] rfl), fun base h1 h2 => ?_⟩
  obtain ⟨fa2, fd2, oc2, od2, osl2, lk2, F2, hm2, _, _⟩ := C base h1 h2
  rw [hfa] at hm2
  cases hm2
  rw [lk] at lk2
  cases lk2
  exact F2.imp fun vs H Q E q => spLaw_spF hw q
/-- the law's call, from the caller's place -/
theorem walkG {l : PySem.W.OpenLaw} {n k : Nat} {q : Program} {loose : List Str} {XP : (Str → Option Value) → Heap → Prop} {YP : World → Heap → Prop} {d : DefRec} {K : Params → PySem.W.Frag} {f : Fn}
    (hn : l.most = some n) (hn2 : n ≤ sizeLine) (hdf : d.params.defaults = []) (hr : Room k callerA) (hY : ∀ (w : World) (h : Heap), YP w h → (K w.params).In h)
    (F : ∀ (w : World) (mg : Str → Option Value) (fa : Addr) (h : Heap), (K w.params).In h → h.Ns mainGlobals mg → mg d.name = some (.ref fa) →
      ∃ fd : FuncData, (∀ (s : Shared) (u : Value), BindsTo s fd ⟨[u], []⟩ [("_law_script", u)]) ∧ ∀ base : Heap, (K w.params).In base → base.Ns mainGlobals mg → FnG l.prog w (K w.params) mg base k fa fd ["_law_script"] (spLaw (K w.params) f []))
    (hf : ∀ ns : List Int, ns.length ≤ n → f [.d (.list (ns.map PyData.int))] [] = .ok (.d (.bool true)) []) : PySem.W.WalkO q loose XP YP l.row.toRowW d [] (fun g vs => PySem.call g vs) := by
  refine Att.attach_call hn hdf fun w s₀ s₁ mg mb fa o pm cd doc a vs ns G Y _ _ _ hmg hobj hints hlen hg => ?_
  have KX := hY w _ Y
  obtain ⟨fd, hb, FF⟩ := F w mg fa _ KX G.T.g hmg
  have T := G.T
  have rv := vals_ints hints
  have lz := hints.length
  have l16 := Nat.le_trans hlen hn2
  have main : ∀ H : Hp, Only H → SqL (K w.params) H a (ns.map V.int) → HOk l.prog w H s₁.heap → (∀ b, H b ≠ none → b = a) → (H a ≠ none → (K w.params).lookup a = none) →
      codeAny (model l.prog w) callerA (.call (.ref fa) ⟨[.ref a], []⟩) (fun r s' => r = .ok (.ret (.bool true)) ∧ OldK s₁.heap s'.heap ∧ s'.os = s₁.os ∧ AllBare s'.gens) s₁ := by
    intro H only seq ok1 own1 own2
    have hid : ∀ {b : Addr} {o : Obj}, s₁.heap.get? b = some o → H b = none → (hidT s₁.heap H).get? b = some o := fun e z => hidT_get e z
    have dic : ∀ {b : Addr} {o : Obj} {es : Array DictEntry} {ep : Nat}, s₁.heap.get? b = some o → o.data = .dict es ep → H b = none := fun {b o es ep} e dd => by
      rcases z : H b with _ | u
      · rfl
      · have eb : b = a := own1 b (by rw [z]; simp)
        subst eb
        rw [hobj] at e
        cases e
        exact nomatch (show Data.seq vs.toArray _ = Data.dict es ep from dd)
    have nsT : ∀ {b : Addr} {mm : Str → Option Value}, s₁.heap.Ns b mm → (hidT s₁.heap H).Ns b mm := fun {b mm} ⟨o, es, ep, e, dd, r⟩ => ⟨o, es, ep, hid e (dic e dd), dd, r⟩
    have inB : (K w.params).In (hidT s₁.heap H) := fun b o e => hid (KX b o e) (by
      rcases z : H b with _ | u
      · rfl
      · have eb : b = a := own1 b (by rw [z]; simp)
        subst eb
        rw [own2 (by rw [z]; simp)] at e
        cases e)
    have md : Mod (K w.params) mg (hidT s₁.heap H) := ⟨inB, nsT T.g, ⟨mb, nsT T.b, T.builtins⟩, let ⟨mc, z1, z2⟩ := T.nolimit; ⟨mc, nsT z1, z2⟩⟩
    have e0 : Env0 l.prog w (K w.params) mg (hidT s₁.heap H) callerA [] s₁ H := ⟨rfl, md, fun b o e => of_hidT e, Nat.le_of_eq (hidT_size _ _), trivial, fun b z => absurd (show b ∈ ([] : List Addr) from z) (by simp), ok1, .of_eq hg⟩
    refine codeAny_mono ((FF _ inB (nsT T.g)).go (us := [.ref a]) (vs := [.ref a]) ⟨hr, rfl⟩ e0 (hb s₁ (.ref a)) (.cons rfl .nil) (spLaw_in seq (hf ns hlen))) fun r s2 z => ?_
    rcases r with e | fl
    · exact (cx_none z).elim
    cases fl with
    | next => exact z.elim
    | brk => exact z.elim
    | cont => exact z.elim
    | ret u =>
      obtain ⟨v, H2, os, bare, un, ok2, rv2, ve⟩ := z
      have ve : v = .bl true := ve
      subst ve
      obtain rfl : u = Value.bool true := rv2
      refine ⟨rfl, OldK.of_keep fun b o e => ?_, os, bare⟩
      rcases z : H b with _ | u
      · exact un.keep b o e z (by intro zz; exact absurd (show b ∈ ([] : List Addr) from zz) (by simp)) (by simp)
      · rcases only b with y | ⟨ob, xs, y⟩
        · rw [z] at y
          cases y
        · obtain ⟨e1, _⟩ := ok1 b _ y
          obtain ⟨e2, _⟩ := ok2 b _ (un.frzs b ob _ y)
          rw [e] at e1
          cases e1
          exact e2
  rcases lk : (K w.params).lookup a with _ | o1
  · refine main (fun b => if b = a then some (.frz { cls := .type "list", data := .seq vs.toArray } (.lst (ns.map V.int))) else none) (fun b => ?_) (.inl (.inr ⟨{ cls := .type "list", data := .seq vs.toArray }, if_pos rfl⟩)) (fun b u z => ?_) (fun b z => ?_) fun _ => lk
    · by_cases e : b = a
      · exact .inr ⟨_, _, if_pos e⟩
      · exact .inl (if_neg e)
    · by_cases e : b = a
      · have z := (if_pos e).symm.trans z
        cases z
        subst e
        exact ⟨hobj, by rw [List.length_map]; exact l16, vs, _, rv, hobj⟩
      · exact nomatch (if_neg e).symm.trans z
    · by_cases e : b = a
      · exact e
      · exact absurd (if_neg e) z
  · have e := KX a o1 lk
    rw [hobj] at e
    cases e
    exact main (fun _ => none) (fun _ => .inl rfl) (.inr ⟨_, vs.toArray, _, lk, rfl, rfl, rfl, by rw [List.size_toArray, lz]; exact l16, by simpa using rv⟩) (fun b u z => nomatch (show (none : Option HO) = some u from z)) (fun b z => absurd rfl z) fun z => absurd rfl z
/-! ### exceptions by name -/
def ecOf (mg : Str → Option Value) (T : List (Addr × Str) := []) (L : List String := []) : EC := ⟨fun n => match mg (Str.ofString n) with
  | some (.ref a) => a
  | _ => 0, T, L, bot, 0, 0⟩
theorem exc_g {mg : Str → Option Value} {T : List (Addr × Str)} {L : List String} {n : String} {a : Addr} (h : mg (Str.ofString n) = some (.ref a)) : mg (Str.ofString n) = some (.ref ((ecOf mg T L).f n)) := by
  show mg (Str.ofString n) = some (.ref (match mg (Str.ofString n) with
    | some (.ref a) => a
    | _ => 0))
  rw [h]
theorem exc_e {mg : Str → Option Value} {T : List (Addr × Str)} {L : List String} {n : String} {a : Addr} {P : Addr → Prop} (h : mg (Str.ofString n) = some (.ref a)) (q : P a) : P ((ecOf mg T L).f n) := by
  show P (match mg (Str.ofString n) with
    | some (.ref a) => a
    | _ => 0)
  rw [h]
  exact q
section
variable {X : Cx} {ec : EC} {W : WX}
/-! ### times: ints, a list or a tuple so many times -/
theorem op_repV : OpR X (binaryOp .Mult) (rRepV X.K) := by
  intro pins s σ H x y v u Q I rx ry h
  obtain ⟨l, k, xs, rfl, rfl, hH, h1, h2, hz, q⟩ := h
  cases rx
  obtain ⟨t, rfl⟩ := ry
  obtain ⟨its, r, p, z⟩ := I.list hH
  obtain ⟨⟨cls, dd, data, sl⟩, n, e, hc, hd, hs⟩ := p
  dsimp only at hc hd hs
  subst hc
  subst hd
  subst hs
  have hl : xs.length = its.length := r.length
  have hlen : its.toArray.size * k.toNat ≤ sizeLine := by rw [List.size_toArray, ← hl]; exact hz
  have hcap : ¬ its.toArray.size * k.toNat > (2 ^ 63 - 1) / 8 := by
    have : (sizeLine : Nat) ≤ (2 ^ 63 - 1) / 8 := by decide
    omega
  have hfit : ¬ (!Builtin.List.listFitsIndex k) = true := by
    rw [fitsIndex_both h1 h2]
    exact Bool.false_ne_true
  have hlong : ¬ Builtin.List.listTooLong (its.toArray.size * k.toNat) = true := by
    rw [notLongL hlen]
    exact Bool.false_ne_true
  have hnew : List.foldl (fun x1 x2 => x1 ++ x2) #[] (List.replicate (if its.toArray.isEmpty = true then 0 else k.toNat) its.toArray) = (List.replicate k.toNat its).flatten.toArray := by
    have f0 : ∀ m : Nat, List.foldl (fun x1 x2 => x1 ++ x2) #[] (List.replicate m its.toArray) = (List.replicate m its).flatten.toArray := fun m => by
      have := foldl_rep its m []
      rw [List.nil_append] at this
      exact this
    rw [f0]
    cases its with
    | nil => simp
    | cons a r' => rw [if_neg (by simp)]
  refine wpAny_binaryOp_repeat_ref (T := "list") (U := "int") (by decide) ⟨_, e, rfl⟩ (fun s' => typeIs_int s' k t) noFill_list_mul F.fills_int_mul F.slot_int_rmul repeat_list F.slot_int_index.lookup
    (call_meets F.slot_int_rmul (typeIs_int s k t) F.entry_int_rmul (F.args_int_rmul_2 _ _) (lm_int_rmul_list_any k t l its.toArray n _ _)
      ⟨e, rfl, ⟨_, e, rfl⟩, call_meets F.slot_list_mul ⟨_, e, rfl⟩ F.entry_list_mul (F.args_list_mul_2 _ _) (lm_list_mul_any l its.toArray n _ _ k t hfit hcap hlong) ⟨e, ?_⟩⟩)
  rw [hnew]
  exact ⟨.ref _, _, I.lnew (t' := s.toks) (r.rep k.toNat) (by rw [PyProof.Rows.lm_len_rep_flat, Nat.mul_comm]; rw [List.size_toArray] at hlen; omega), rfl, q _ I.fresh⟩
theorem tuple_mul1 (l : Addr) (items : Array Value) (n : Nat) (dd : Option Addr) (sl : Array (Option Value)) (x : Int) (u : Tok) (c0 : (decide (x < -(2 ^ 63)) || decide (x ≥ 2 ^ 63)) = false) (c1 : (items.isEmpty || x == 1) = true) :
    Meets (Builtin.«tuple.__mul__» ⟨[.ref l, .int x u], []⟩) (fun _ R s => s.heap.get? l = some { cls := .type "tuple", dict := dd, data := .seq items n, slots := sl } ∧ R (.ok (.ret (Value.ref l))) s) :=
  .of_wp fun prog w A R s h => by
    obtain ⟨hp, g, d, tk, os⟩ := s
    obtain ⟨hl, h⟩ := h
    have f1 := AutoSeq1.idx_int
    wp_walk using wpAny_loadPart' hl
    repeat (first
      | (refine wpAny_ite_false (decide_eq_false (by rw [c0]; exact Bool.false_ne_true)) ?_; wp_walk using wpAny_loadPart' hl)
      | (refine wpAny_ite_true (decide_eq_true c1) ?_; wp_walk using wpAny_loadPart' hl))
    exact ⟨_, rfl, h⟩
def rRepT1 (K : Fg) : R2 := fun x y H Q => ∃ l xs, x = .ref l ∧ y = .int 1 ∧ SqT K H l xs ∧ Q (.ref l) H
theorem op_repT1 : OpR X (binaryOp .Mult) (rRepT1 X.K) := by
  intro pins s σ H x y v u Q I rx ry h
  obtain ⟨l, xs, rfl, rfl, hT, q⟩ := h
  cases rx
  obtain ⟨t, rfl⟩ := ry
  obtain ⟨its, r, ⟨⟨cls, dd, data, sl⟩, ho, hc, n, hd⟩, hs⟩ := I.tuple hT
  simp only at hc hd
  subst hc hd
  refine wpAny_binaryOp_repeat_ref (T := "tuple") (U := "int") (by decide) ⟨_, ho, rfl⟩ (fun s' => typeIs_int s' 1 t) noFill_tuple_mul F.fills_int_mul F.slot_int_rmul repeat_tuple F.slot_int_index.lookup
    (call_meets F.slot_int_rmul (typeIs_int s 1 t) F.entry_int_rmul (F.args_int_rmul_2 _ _) (int_rmul_tuple 1 t l its.toArray n dd sl)
      ⟨ho, rfl, ⟨_, ho, rfl⟩, call_meets F.slot_tuple_mul ⟨_, ho, rfl⟩ F.entry_tuple_mul (F.args_tuple_mul_2 _ _) (tuple_mul1 l its.toArray n dd sl 1 t (by decide) (by simp)) ⟨ho, ?_⟩⟩)
  exact ⟨.ref l, _, I.kept (t' := s.toks) (fun _ _ e => e), rfl, q⟩
theorem tuple_mul0 (l : Addr) (items : Array Value) (n : Nat) (dd : Option Addr) (sl : Array (Option Value)) (x : Int) (u : Tok) (c0 : (decide (x < -(2 ^ 63)) || decide (x ≥ 2 ^ 63)) = false) (c1 : (items.isEmpty || x == 1) = false) (c2 : (decide (x ≤ 0) || items.isEmpty) = true) :
    Meets (Builtin.«tuple.__mul__» ⟨[.ref l, .int x u], []⟩) (fun _ R s => s.heap.get? l = some { cls := .type "tuple", dict := dd, data := .seq items n, slots := sl } ∧
      R (.ok (.ret (Value.ref s.heap.objs.size))) { s with heap := s.heap.push { cls := Value.type "tuple", data := Data.seq #[] }, toks := s.toks }) :=
  .of_wp fun prog w A R s h => by
    obtain ⟨hp, g, d, tk, os⟩ := s
    obtain ⟨hl, h⟩ := h
    have f1 := AutoSeq1.idx_int
    wp_walk using wpAny_loadPart' hl
    repeat (first
      | (refine wpAny_ite_false (decide_eq_false (by rw [c0]; exact Bool.false_ne_true)) ?_; wp_walk using wpAny_loadPart' hl)
      | (refine wpAny_ite_false (decide_eq_false (by rw [c1]; exact Bool.false_ne_true)) ?_; wp_walk using wpAny_loadPart' hl)
      | (refine wpAny_ite_true (decide_eq_true c2) ?_; wp_walk using wpAny_loadPart' hl))
    exact ⟨_, rfl, h⟩
def rRepT0 (K : Fg) : R2 := fun x y H Q => ∃ l k xs, x = .ref l ∧ y = .int k ∧ SqT K H l xs ∧ xs ≠ [] ∧ k ≤ 0 ∧ -1000 ≤ k ∧ ∀ p, H p = none → Q (.ref p) (upd H p (.tup []))
theorem op_repT0 : OpR X (binaryOp .Mult) (rRepT0 X.K) := by
  intro pins s σ H x y v u Q I rx ry h
  obtain ⟨l, k, xs, rfl, rfl, hT, hne, h1, h2, q⟩ := h
  cases rx
  obtain ⟨t, rfl⟩ := ry
  obtain ⟨its, r, ⟨⟨cls, dd, data, sl⟩, ho, hc, n, hd⟩, hs⟩ := I.tuple hT
  simp only at hc hd
  subst hc hd
  have hle : its.length = xs.length := r.length.symm
  have hn : its ≠ [] := fun e => hne (by
    rw [e] at hle
    exact List.eq_nil_of_length_eq_zero hle.symm)
  have hi : its.toArray.isEmpty = false := by
    cases its with
    | nil => exact absurd rfl hn
    | cons a b => rfl
  have c0 : (decide (k < -(2 ^ 63)) || decide (k ≥ 2 ^ 63)) = false := by
    rw [decide_eq_false (by omega), decide_eq_false (by omega)] <;> rfl
  have c1 : (its.toArray.isEmpty || k == 1) = false := by
    rw [hi, Bool.false_or]
    exact beq_eq_false_iff_ne.mpr (by omega)
  have c2 : (decide (k ≤ 0) || its.toArray.isEmpty) = true := by
    rw [decide_eq_true h1, Bool.true_or]
  refine wpAny_binaryOp_repeat_ref (T := "tuple") (U := "int") (by decide) ⟨_, ho, rfl⟩ (fun s' => typeIs_int s' k t) noFill_tuple_mul F.fills_int_mul F.slot_int_rmul repeat_tuple F.slot_int_index.lookup
    (call_meets F.slot_int_rmul (typeIs_int s k t) F.entry_int_rmul (F.args_int_rmul_2 _ _) (int_rmul_tuple k t l its.toArray n dd sl)
      ⟨ho, rfl, ⟨_, ho, rfl⟩, call_meets F.slot_tuple_mul ⟨_, ho, rfl⟩ F.entry_tuple_mul (F.args_tuple_mul_2 _ _) (tuple_mul0 l its.toArray n dd sl k t c0 c1 c2) ⟨ho, ?_⟩⟩)
  refine ⟨.ref s.heap.objs.size, _, I.laid (t' := s.toks) (o := .tup []) (fun b ob q => Heap.get?_push_of_some _ q) (Nat.le_refl _) ?_, rfl, q _ (I.hok.fresh (Nat.le_refl _))⟩
  exact ⟨Nat.zero_le _, _, .nil, IsTup.new _ _⟩
def rMulV (K : Fg) : R2 := fun x y H Q => (rI (fun i j => mulOk i j = true) (fun i j => .int (i * j))) x y H Q ∨ rRepV K x y H Q ∨ rRepT K x y H Q ∨ rRepT1 K x y H Q ∨ rRepT0 K x y H Q
theorem or_mul : OpR X (binaryOp .Mult) (rMulV X.K) := OpR.or op_mulV (OpR.or op_repV (OpR.or op_repT (OpR.or op_repT1 op_repT0)))
def opMulV : Od → Od → Option Rv
  | .d (.int i), .d (.int j) => if mulOk i j = true then some (.d (.int (i * j))) else none
  | .d (.list ds), .d (.int k) => if decide (k < 2 ^ 63) && decide (-(2 ^ 63) ≤ k) && decide (ds.length * k.toNat ≤ 16000000) then some (.new (.l (List.replicate k.toNat ds).flatten)) else none
  | .d (.tuple ds), .d (.int k) => if k = 1 then some (.d (.tuple ds)) else if !ds.isEmpty && decide (2 ≤ k) && decide (k ≤ 1000) && decide (ds.length ≤ 1000) then some (.d (.tuple (List.replicate k.toNat ds).flatten)) else if !ds.isEmpty && decide (k ≤ 0) && decide (-1000 ≤ k) then some (.d (.tuple [])) else none
  | _, _ => none
theorem rp_rep {K : Fg} {H : Hp} {vs : List V} {ds : List D} (r : RpAll K H vs ds) : ∀ n, RpAll K H (List.replicate n vs).flatten (List.replicate n ds).flatten
  | 0 => .nil
  | n + 1 => by
    rw [List.replicate_succ, List.flatten_cons, List.replicate_succ, List.flatten_cons]
    exact r.append (rp_rep r n)
theorem s_mulV {K : Fg} : Op2S K (rMulV K) opMulV := by
  intro w x y o o' rv Q hx h h' e q
  unfold opMulV at e
  split at e
  · split at e
    · rename_i hm
      cases e
      exact .inl ⟨_, _, h.int, h'.int, hm, post_int q⟩
    · cases e
  · split at e
    · rename_i ds k hc
      cases e
      simp only [Bool.and_eq_true, decide_eq_true_eq] at hc
      obtain ⟨p, vs, rfl, hl, r⟩ := h.list hx
      refine .inr (.inl ⟨p, k, vs, rfl, h'.int, hl, hc.1.2, hc.1.1, sz16 (by rw [r.length]; exact hc.2), fun a ha => post_lst q (rp_rep r _) ha hx⟩)
    · cases e
  · split at e
    · rename_i ds k hk
      subst hk
      cases e
      obtain ⟨p, vs, rfl, hg, r⟩ := h.tup
      exact .inr (.inr (.inr (.inl ⟨p, vs, rfl, h'.int, .inl (.inl (hx _ _ hg)), post_d q (.tup hg r)⟩)))
    · split at e
      · rename_i ds k hk hc
        cases e
        simp only [Bool.and_eq_true, decide_eq_true_eq, Bool.not_eq_true', List.isEmpty_eq_false_iff] at hc
        obtain ⟨p, vs, rfl, hg, r⟩ := h.tup
        refine .inr (.inr (.inl ⟨p, k, vs, rfl, h'.int, .inl (.inl (hx _ _ hg)), fun e => hc.1.1.1 ?_, hc.1.1.2, hc.1.2, by rw [r.length]; exact hc.2, fun a ha => post_tup q (rp_rep r _) ha hx⟩))
        subst e
        cases r
        rfl
      · split at e
        · rename_i ds k hk hc2 hc
          cases e
          simp only [Bool.and_eq_true, decide_eq_true_eq, Bool.not_eq_true', List.isEmpty_eq_false_iff] at hc
          obtain ⟨p, vs, rfl, hg, r⟩ := h.tup
          refine .inr (.inr (.inr (.inr ⟨p, k, vs, rfl, h'.int, .inl (.inl (hx _ _ hg)), fun e => hc.1.1 ?_, hc.1.2, hc.2, fun a ha => post_tup q .nil ha hx⟩)))
          subst e
          cases r
          rfl
        · cases e
  · cases e
/-! ### methods of a list -/
end
end Vm
namespace Vm
open PySem L2
/-! ### runs step by step, for simp -/
def frz : Rv → S → R Rv
  | .d x, s => .ok (.d x) s
  | .ref n, s => .ok (.ref n) s
  | .t b es, s => .ok (.t b es) s
  | .new (.l ds), s => .ok (.d (.list ds)) s
  | .new (.k kvs), s => .ok (.d (.dict (kvs.map fun p => (kD p.1, p.2)))) s
  | .new _, _ => .bad
@[simp] theorem frz_d {x : D} {s : S} : frz (.d x) s = .ok (.d x) s := Eq.trans rfl rfl
@[simp] theorem frz_t {b : Bool} {es : List El} {s : S} : frz (.t b es) s = .ok (.t b es) s := Eq.trans rfl rfl
@[simp] theorem frz_ref {n : Nat} {s : S} : frz (.ref n) s = .ok (.ref n) s := Eq.trans rfl rfl
@[simp] theorem frz_l {ds : List D} {s : S} : frz (.new (.l ds)) s = .ok (.d (.list ds)) s := Eq.trans rfl rfl
@[simp] theorem frz_k {kvs : List (L2.Key × D)} {s : S} : frz (.new (.k kvs)) s = .ok (.d (.dict (kvs.map fun p => (kD p.1, p.2)))) s := Eq.trans rfl rfl
section
variable {α β : Type}
@[simp] theorem bind_ok {a : α} {s : S} {k : α → S → R β} : (R.ok a s).bind k = k a s := Eq.trans rfl rfl
@[simp] theorem bind_ex {e : String} {s : S} {k : α → S → R β} : (R.ex e s).bind k = .ex e s := Eq.trans rfl rfl
@[simp] theorem out_ok {a : α} {s : S} {k : α → S → Out} : (R.ok a s).out k = k a s := Eq.trans rfl rfl
@[simp] theorem out_ex {e : String} {s : S} {k : α → S → Out} : (R.ex e s : R α).out k = .ex e s := Eq.trans rfl rfl
@[simp] theorem opt_some {a : α} {k : α → R β} : opt (some a) k = k a := Eq.trans rfl rfl
end
@[simp] theorem cv_s {c : CE} {s : S} : cv c s = (c s).bind frz := by
  unfold cv
  congr 1
  funext rv s1
  cases rv with
  | d x => rfl
  | t b es => rfl
  | ref n => rfl
  | new c => cases c <;> rfl
def slR : Option Sl → S → R Rv
  | some (.d x), s => .ok (.d x) s
  | some (.c n), s => .ok (.ref n) s
  | some (.t b es), s => .ok (.t b es) s
  | _, _ => .bad
@[simp] theorem slR_t {b : Bool} {es : List El} {s : S} : slR (some (.t b es)) s = .ok (.t b es) s := Eq.trans rfl rfl
@[simp] theorem slR_d {x : D} {s : S} : slR (some (.d x)) s = .ok (.d x) s := Eq.trans rfl rfl
@[simp] theorem slR_c {n : Nat} {s : S} : slR (some (.c n)) s = .ok (.ref n) s := Eq.trans rfl rfl
@[simp] theorem cVar_r {i : Nat} {s : S} : cVar i s = slR s.v[i]? s := by
  unfold cVar
  generalize s.v[i]? = o
  rcases o with _ | (_ | _ | _) <;> rfl
@[simp] theorem cC_s {d : D} {s : S} : cC d s = .ok (.d d) s := Eq.trans rfl rfl
def odC : Option Cell → Option Od
  | some (.l ds) => some (.d (.list ds))
  | some (.k kvs) => some (.c (.k kvs))
  | some (.t kvs) => some (.c (.t kvs))
  | some (.r ks) => some (.c (.r ks))
  | some (.g x) => some (.c (.g x))
  | _ => none
@[simp] theorem odC_l {ds : List D} : odC (some (.l ds)) = some (.d (.list ds)) := Eq.trans rfl rfl
@[simp] theorem odC_k {kvs : List (L2.Key × D)} : odC (some (.k kvs)) = some (.c (.k kvs)) := Eq.trans rfl rfl
@[simp] theorem odC_t {kvs : List (List L2.Key × D)} : odC (some (.t kvs)) = some (.c (.t kvs)) := Eq.trans rfl rfl
@[simp] theorem odC_r {ks : List (List L2.Key)} : odC (some (.r ks)) = some (.c (.r ks)) := Eq.trans rfl rfl
@[simp] theorem od_d {x : D} {m : List Cell} : (Rv.d x).od m = some (.d x) := Eq.trans rfl rfl
@[simp] theorem od_ref {n : Nat} {m : List Cell} : (Rv.ref n).od m = odC m[n]? := by
  unfold Rv.od
  dsimp only
  generalize m[n]? = o
  rcases o with _ | (_ | _ | _ | _ | _ | _) <;> rfl
/-! what comes behind has a name: simp stays out of it -/
def rvK : Option Rv → S → R Rv
  | some rv, s => .ok rv s
  | none, _ => .bad
@[simp] theorem rvK_s {rv : Rv} {s : S} : rvK (some rv) s = .ok rv s := Eq.trans rfl rfl
theorem opt_rv {o : Option Rv} {s : S} : (opt o fun rv => .ok rv s) = rvK o s := by cases o <;> rfl
def odK1 (f : Od → Option Rv) : Option Od → S → R Rv
  | some o, s => rvK (f o) s
  | none, _ => .bad
@[simp] theorem odK1_s {f : Od → Option Rv} {o : Od} {s : S} : odK1 f (some o) s = rvK (f o) s := Eq.trans rfl rfl
def kOp1 (f : Od → Option Rv) (x : Rv) (s1 : S) : R Rv := odK1 f (x.od s1.m) s1
@[simp] theorem kOp1_s {f : Od → Option Rv} {x : Rv} {s1 : S} : kOp1 f x s1 = odK1 f (x.od s1.m) s1 := Eq.trans rfl rfl
@[simp] theorem cOp1_s {f : Od → Option Rv} {a : CE} {s : S} : cOp1 f a s = (cv a s).bind (kOp1 f) := by
  unfold cOp1
  congr 1
  funext x s1
  rw [kOp1_s]
  cases x.od s1.m with
  | none => rfl
  | some o => exact opt_rv
def odK2 (f : Od → Od → Option Rv) : Option Od → Option Od → S → R Rv
  | some o, some o', s => rvK (f o o') s
  | _, _, _ => .bad
@[simp] theorem odK2_s {f : Od → Od → Option Rv} {o o' : Od} {s : S} : odK2 f (some o) (some o') s = rvK (f o o') s := Eq.trans rfl rfl
def kOp2b (f : Od → Od → Option Rv) (x y : Rv) (s2 : S) : R Rv := odK2 f (x.od s2.m) (y.od s2.m) s2
@[simp] theorem kOp2b_s {f : Od → Od → Option Rv} {x y : Rv} {s2 : S} : kOp2b f x y s2 = odK2 f (x.od s2.m) (y.od s2.m) s2 := Eq.trans rfl rfl
def kOp2 (f : Od → Od → Option Rv) (b : CE) (x : Rv) (s1 : S) : R Rv := (cv b s1).bind (kOp2b f x)
@[simp] theorem kOp2_s {f : Od → Od → Option Rv} {b : CE} {x : Rv} {s1 : S} : kOp2 f b x s1 = (cv b s1).bind (kOp2b f x) := Eq.trans rfl rfl
theorem opt_od2 {f : Od → Od → Option Rv} {a b : Option Od} {s : S} : (opt a fun o => opt b fun o' => opt (f o o') fun rv => .ok rv s) = odK2 f a b s := by
  cases a with
  | none => rfl
  | some o =>
    cases b with
    | none => rfl
    | some o' => exact opt_rv
@[simp] theorem cOp2_s {f : Od → Od → Option Rv} {a b : CE} {s : S} : cOp2 f a b s = (cv a s).bind (kOp2 f b) := by
  unfold cOp2
  congr 1
  funext x s1
  rw [kOp2_s]
  congr 1
  funext y s2
  exact opt_od2
@[simp] theorem cOp2r_s {f : Od → Od → Option Rv} {a b : CE} {s : S} : cOp2r f a b s = cOp2 (fun o o' => f o' o) a b s := Eq.trans rfl rfl
def boolR : Rv → S → R Bool
  | .d (.bool b), s => .ok b s
  | _, _ => .bad
@[simp] theorem boolR_b {b : Bool} {s : S} : boolR (.d (.bool b)) s = .ok b s := Eq.trans rfl rfl
@[simp] theorem cB_s {c : CE} {s : S} : cB c s = (cv c s).bind boolR := by
  unfold cB
  congr 1
  funext a s1
  rcases a with (_ | _ | _ | _ | _ | _ | _) | _ | _ <;> rfl
def bK : Option Bool → S → R Bool
  | some b, s => .ok b s
  | none, _ => .bad
@[simp] theorem bK_s {b : Bool} {s : S} : bK (some b) s = .ok b s := Eq.trans rfl rfl
def truK : Option Od → S → R Bool
  | some o, s => bK (truthy o) s
  | none, _ => .bad
@[simp] theorem truK_s {o : Od} {s : S} : truK (some o) s = bK (truthy o) s := Eq.trans rfl rfl
def kTru (a : Rv) (s1 : S) : R Bool := truK (a.od s1.m) s1
@[simp] theorem kTru_s {a : Rv} {s1 : S} : kTru a s1 = truK (a.od s1.m) s1 := Eq.trans rfl rfl
@[simp] theorem cTru_s {c : CE} {s : S} : cTru c s = (cv c s).bind kTru := by
  unfold cTru
  congr 1
  funext a s1
  rw [kTru_s]
  cases a.od s1.m with
  | none => rfl
  | some o =>
    show (opt (truthy o) fun b => R.ok b s1) = bK (truthy o) s1
    cases truthy o <;> rfl
@[simp] theorem truthy_b {b : Bool} : truthy (.d (.bool b)) = some b := Eq.trans rfl rfl
@[simp] theorem truthy_i {i : Int} : truthy (.d (.int i)) = some (i != 0) := Eq.trans rfl rfl
@[simp] theorem truthy_l {ds : List D} : truthy (.d (.list ds)) = some (!ds.isEmpty) := Eq.trans rfl rfl
@[simp] theorem truthy_t {ds : List D} : truthy (.d (.tuple ds)) = some (!ds.isEmpty) := Eq.trans rfl rfl
@[simp] theorem truthy_n : truthy (.d .none) = some false := Eq.trans rfl rfl
def kAndT (b : CT) (x : Bool) (s1 : S) : R Bool := if x = true then b s1 else .ok false s1
@[simp] theorem kAndT_s {b : CT} {x : Bool} {s1 : S} : kAndT b x s1 = if x = true then b s1 else .ok false s1 := Eq.trans rfl rfl
@[simp] theorem tAnd_s {a b : CT} {s : S} : tAnd' a b s = (a s).bind (kAndT b) := Eq.trans rfl rfl
def kOrT (b : CT) (x : Bool) (s1 : S) : R Bool := if x = true then .ok true s1 else b s1
@[simp] theorem kOrT_s {b : CT} {x : Bool} {s1 : S} : kOrT b x s1 = if x = true then .ok true s1 else b s1 := Eq.trans rfl rfl
@[simp] theorem tOr_s {a b : CT} {s : S} : tOr' a b s = (a s).bind (kOrT b) := Eq.trans rfl rfl
def kNotT (x : Bool) (s1 : S) : R Bool := .ok (!x) s1
@[simp] theorem kNotT_s {x : Bool} {s1 : S} : kNotT x s1 = .ok (!x) s1 := Eq.trans rfl rfl
@[simp] theorem tNot_s {a : CT} {s : S} : tNot' a s = (a s).bind kNotT := Eq.trans rfl rfl
def kAndE (b : CE) (x : Bool) (s1 : S) : R Rv := if x = true then b s1 else .ok (.d (.bool false)) s1
@[simp] theorem kAndE_s {b : CE} {x : Bool} {s1 : S} : kAndE b x s1 = if x = true then b s1 else .ok (.d (.bool false)) s1 := Eq.trans rfl rfl
@[simp] theorem cAnd_s {a b : CE} {s : S} : cAnd a b s = (cB a s).bind (kAndE b) := Eq.trans rfl rfl
def kOrE (b : CE) (x : Bool) (s1 : S) : R Rv := if x = true then .ok (.d (.bool true)) s1 else b s1
@[simp] theorem kOrE_s {b : CE} {x : Bool} {s1 : S} : kOrE b x s1 = if x = true then .ok (.d (.bool true)) s1 else b s1 := Eq.trans rfl rfl
@[simp] theorem cOr_s {a b : CE} {s : S} : cOr a b s = (cB a s).bind (kOrE b) := Eq.trans rfl rfl
def kNotE (x : Bool) (s1 : S) : R Rv := .ok (.d (.bool (!x))) s1
@[simp] theorem kNotE_s {x : Bool} {s1 : S} : kNotE x s1 = .ok (.d (.bool (!x))) s1 := Eq.trans rfl rfl
@[simp] theorem cNot_s {a : CE} {s : S} : cNot a s = (cB a s).bind kNotE := Eq.trans rfl rfl
def kIf (a b : CE) (x : Bool) (s1 : S) : R Rv := if x = true then a s1 else b s1
@[simp] theorem kIf_s {a b : CE} {x : Bool} {s1 : S} : kIf a b x s1 = if x = true then a s1 else b s1 := Eq.trans rfl rfl
@[simp] theorem cIf_s {t : CT} {a b : CE} {s : S} : cIf t a b s = (t s).bind (kIf a b) := Eq.trans rfl rfl
@[simp] theorem cNil_s {s : S} : cNil s = .ok [] s := Eq.trans rfl rfl
def kCons (x : D) (xs : List D) (s2 : S) : R (List D) := .ok (x :: xs) s2
@[simp] theorem kCons_s {x : D} {xs : List D} {s2 : S} : kCons x xs s2 = .ok (x :: xs) s2 := Eq.trans rfl rfl
def consR (ca : CA) : Rv → S → R (List D)
  | .d x, s1 => (ca s1).bind (kCons x)
  | _, _ => .bad
@[simp] theorem consR_d {ca : CA} {x : D} {s1 : S} : consR ca (.d x) s1 = (ca s1).bind (kCons x) := Eq.trans rfl rfl
@[simp] theorem cCons_s {c : CE} {ca : CA} {s : S} : cCons c ca s = (cv c s).bind (consR ca) := by
  unfold cCons
  congr 1
  funext a s1
  cases a <;> rfl
def kTup (ds : List D) (s1 : S) : R Rv := .ok (.d (.tuple ds)) s1
@[simp] theorem kTup_s {ds : List D} {s1 : S} : kTup ds s1 = .ok (.d (.tuple ds)) s1 := Eq.trans rfl rfl
@[simp] theorem cTup_s {ca : CA} {s : S} : cTup ca s = (ca s).bind kTup := Eq.trans rfl rfl
def kLst (ds : List D) (s1 : S) : R Rv := .ok (.new (.l ds)) s1
@[simp] theorem kLst_s {ds : List D} {s1 : S} : kLst ds s1 = .ok (.new (.l ds)) s1 := Eq.trans rfl rfl
@[simp] theorem cLst_s {ca : CA} {s : S} : cLst ca s = (ca s).bind kLst := Eq.trans rfl rfl
/-! statements -/
def Out.then (o : Out) (b : CS) : Out := match o with
  | .nx s1 => b s1
  | o => o
@[simp] theorem then_nx {s : S} {b : CS} : (Out.nx s).then b = b s := Eq.trans rfl rfl
@[simp] theorem then_rt {a : Rv} {s : S} {b : CS} : (Out.rt a s).then b = .rt a s := Eq.trans rfl rfl
@[simp] theorem then_bk {s : S} {b : CS} : (Out.bk s).then b = .bk s := Eq.trans rfl rfl
@[simp] theorem then_ct {s : S} {b : CS} : (Out.ct s).then b = .ct s := Eq.trans rfl rfl
@[simp] theorem then_ex {e : String} {s : S} {b : CS} : (Out.ex e s).then b = .ex e s := Eq.trans rfl rfl
@[simp] theorem cSeq_s {a b : CS} {s : S} : cSeq a b s = (a s).then b := by
  unfold cSeq
  generalize a s = o
  cases o <;> rfl
@[simp] theorem cNx_s {s : S} : cNx s = .nx s := Eq.trans rfl rfl
@[simp] theorem cBk_s {s : S} : cBk s = .bk s := Eq.trans rfl rfl
@[simp] theorem cCt_s {s : S} : cCt s = .ct s := Eq.trans rfl rfl
def kExp (_ : Rv) (s1 : S) : Out := .nx s1
@[simp] theorem kExp_s {a : Rv} {s1 : S} : kExp a s1 = .nx s1 := Eq.trans rfl rfl
@[simp] theorem cExp_s {c : CE} {s : S} : cExp c s = (c s).out kExp := Eq.trans rfl rfl
@[simp] theorem cRet_s {c : CE} {s : S} : cRet c s = (c s).out .rt := Eq.trans rfl rfl
@[simp] theorem cRetN_s {s : S} : cRetN s = .rt (.d .none) s := Eq.trans rfl rfl
def kIfS (a b : CS) (x : Bool) (s1 : S) : Out := if x = true then a s1 else b s1
@[simp] theorem kIfS_s {a b : CS} {x : Bool} {s1 : S} : kIfS a b x s1 = if x = true then a s1 else b s1 := Eq.trans rfl rfl
@[simp] theorem cIfS_s {t : CT} {a b : CS} {s : S} : cIfS t a b s = (t s).out (kIfS a b) := Eq.trans rfl rfl
def setR (i : Nat) : Rv → S → Out
  | .d x, s1 => .nx ⟨s1.v.set i (.d x), s1.m⟩
  | .ref n, s1 => .nx ⟨s1.v.set i (.c n), s1.m⟩
  | .t b es, s1 => .nx ⟨s1.v.set i (.t b es), s1.m⟩
  | .new _, _ => .bad
@[simp] theorem setR_t {i : Nat} {b : Bool} {es : List El} {s1 : S} : setR i (.t b es) s1 = .nx ⟨s1.v.set i (.t b es), s1.m⟩ := Eq.trans rfl rfl
@[simp] theorem setR_d {i : Nat} {x : D} {s1 : S} : setR i (.d x) s1 = .nx ⟨s1.v.set i (.d x), s1.m⟩ := Eq.trans rfl rfl
@[simp] theorem setR_ref {i : Nat} {x : Nat} {s1 : S} : setR i (.ref x) s1 = .nx ⟨s1.v.set i (.c x), s1.m⟩ := Eq.trans rfl rfl
@[simp] theorem cSet_s {i : Nat} {c : CE} {s : S} : cSet i c s = (cv c s).out (setR i) := by
  unfold cSet
  congr 1
  funext a s1
  cases a <;> rfl
def setMR (i : Nat) : Rv → S → Out
  | .new .gone, _ => .bad
  | .new (.i _ _ _), _ => .bad
  | .new cell, s1 => .nx ⟨s1.v.set i (.c s1.m.length), s1.m ++ [cell]⟩
  | .ref n, s1 => .nx ⟨s1.v.set i (.c n), s1.m⟩
  | .t b es, s1 => .nx ⟨s1.v.set i (.t b es), s1.m⟩
  | .d _, _ => .bad
@[simp] theorem setMR_t' {i : Nat} {b : Bool} {es : List El} {s1 : S} : setMR i (.t b es) s1 = .nx ⟨s1.v.set i (.t b es), s1.m⟩ := Eq.trans rfl rfl
@[simp] theorem setMR_l {i : Nat} {ds : List D} {s1 : S} : setMR i (.new (.l ds)) s1 = .nx ⟨s1.v.set i (.c s1.m.length), s1.m ++ [.l ds]⟩ := Eq.trans rfl rfl
@[simp] theorem setMR_k {i : Nat} {ds : List (L2.Key × D)} {s1 : S} : setMR i (.new (.k ds)) s1 = .nx ⟨s1.v.set i (.c s1.m.length), s1.m ++ [.k ds]⟩ := Eq.trans rfl rfl
@[simp] theorem setMR_t {i : Nat} {ds : List (List L2.Key × D)} {s1 : S} : setMR i (.new (.t ds)) s1 = .nx ⟨s1.v.set i (.c s1.m.length), s1.m ++ [.t ds]⟩ := Eq.trans rfl rfl
@[simp] theorem setMR_r {i : Nat} {ds : List (List L2.Key)} {s1 : S} : setMR i (.new (.r ds)) s1 = .nx ⟨s1.v.set i (.c s1.m.length), s1.m ++ [.r ds]⟩ := Eq.trans rfl rfl
@[simp] theorem setMR_ref {i : Nat} {n : Nat} {s1 : S} : setMR i (.ref n) s1 = .nx ⟨s1.v.set i (.c n), s1.m⟩ := Eq.trans rfl rfl
@[simp] theorem cSetM_s {i : Nat} {c : CE} {s : S} : cSetM i c s = (c s).out (setMR i) := by
  unfold cSetM
  congr 1
  funext a s1
  cases a with
  | d x => rfl
  | t b es => rfl
  | ref n => rfl
  | new c => cases c <;> rfl
def putR (i o v : Rv) (s3 : S) : Out := match v, o, i with
  | .d v, .ref n, .d k => match s3.m[n]? with
    | some c => match putIn c k v with
      | some c' => .nx ⟨s3.v, s3.m.set n c'⟩
      | none => .bad
    | none => .bad
  | _, _, _ => .bad
def kPut3 (o v i : Rv) (s3 : S) : Out := putR i o v s3
@[simp] theorem kPut3_s {o v i : Rv} {s3 : S} : kPut3 o v i s3 = putR i o v s3 := Eq.trans rfl rfl
def kPut2 (ci : CE) (v o : Rv) (s2 : S) : Out := (cv ci s2).out (kPut3 o v)
@[simp] theorem kPut2_s {ci : CE} {v o : Rv} {s2 : S} : kPut2 ci v o s2 = (cv ci s2).out (kPut3 o v) := Eq.trans rfl rfl
def kPut1 (co ci : CE) (v : Rv) (s1 : S) : Out := (cv co s1).out (kPut2 ci v)
@[simp] theorem kPut1_s {co ci : CE} {v : Rv} {s1 : S} : kPut1 co ci v s1 = (cv co s1).out (kPut2 ci v) := Eq.trans rfl rfl
@[simp] theorem cPut_s {co ci cw : CE} {s : S} : cPut co ci cw s = (cv cw s).out (kPut1 co ci) := Eq.trans rfl rfl
def putK (v : List Sl) (m : List Cell) (n : Nat) : Option Cell → Out
  | some c => .nx ⟨v, m.set n c⟩
  | none => .bad
@[simp] theorem putK_s {v : List Sl} {m : List Cell} {n : Nat} {c : Cell} : putK v m n (some c) = .nx ⟨v, m.set n c⟩ := Eq.trans rfl rfl
@[simp] theorem putR_s {n : Nat} {k v : D} {s3 : S} {c : Cell} (h : s3.m[n]? = some c) : putR (.d k) (.ref n) (.d v) s3 = putK s3.v s3.m n (putIn c k v) := by
  unfold putR
  dsimp only
  rw [h]
  dsimp only
  generalize putIn c k v = o
  cases o <;> rfl
/-! calls -/
@[simp] theorem lNil_s {s : S} : lNil s = .ok [] s := Eq.trans rfl rfl
def kLc (x : Sl) (r : List Sl) (s2 : S) : R (List Sl) := .ok (x :: r) s2
@[simp] theorem kLc_s {x : Sl} {r : List Sl} {s2 : S} : kLc x r s2 = .ok (x :: r) s2 := Eq.trans rfl rfl
def lconsR (cl : CL) : Rv → S → R (List Sl)
  | .d x, s1 => (cl s1).bind (kLc (.d x))
  | .ref n, s1 => (cl s1).bind (kLc (.c n))
  | .t b es, s1 => (cl s1).bind (kLc (.t b es))
  | _, _ => .bad
@[simp] theorem lconsR_t {cl : CL} {b : Bool} {es : List El} {s1 : S} : lconsR cl (.t b es) s1 = (cl s1).bind (kLc (.t b es)) := Eq.trans rfl rfl
@[simp] theorem lconsR_d {cl : CL} {x : D} {s1 : S} : lconsR cl (.d x) s1 = (cl s1).bind (kLc (.d x)) := Eq.trans rfl rfl
@[simp] theorem lconsR_r {cl : CL} {x : Nat} {s1 : S} : lconsR cl (.ref x) s1 = (cl s1).bind (kLc (.c x)) := Eq.trans rfl rfl
@[simp] theorem lCons_s {c : CE} {cl : CL} {s : S} : lCons c cl s = (cv c s).bind (lconsR cl) := by
  unfold lCons
  congr 1
  funext a s1
  cases a <;> rfl
def kCall (f : Fn) (as : List Sl) (s1 : S) : R Rv := (f as s1.m).toR s1.v
@[simp] theorem kCall_s {f : Fn} {as : List Sl} {s1 : S} : kCall f as s1 = (f as s1.m).toR s1.v := Eq.trans rfl rfl
@[simp] theorem cCall_s {f : Fn} {cl : CL} {s : S} : cCall f cl s = (cl s).bind (kCall f) := Eq.trans rfl rfl
@[simp] theorem toR_ok {a : Rv} {m : List Cell} {v : List Sl} : (RF.ok a m).toR v = .ok a ⟨v, m⟩ := Eq.trans rfl rfl
@[simp] theorem toR_ex {a : String} {m : List Cell} {v : List Sl} : (RF.ex a m).toR v = .ex a ⟨v, m⟩ := Eq.trans rfl rfl
def kCallP (f : Fn) (as : List Sl) (s1 : S) : R Rv := if as.all Sl.isD = true then (f as []).pure s1 else .bad
@[simp] theorem kCallP_s {f : Fn} {as : List Sl} {s1 : S} : kCallP f as s1 = if as.all Sl.isD = true then (f as []).pure s1 else .bad := Eq.trans rfl rfl
@[simp] theorem cCallP_s {f : Fn} {cl : CL} {s : S} : cCallP f cl s = (cl s).bind (kCallP f) := Eq.trans rfl rfl
@[simp] theorem isD_d {x : D} : (Sl.d x).isD = true := Eq.trans rfl rfl
@[simp] theorem pure_d {x : D} {m : List Cell} {s : S} : (RF.ok (.d x) m).pure s = .ok (.d x) s := Eq.trans rfl rfl
@[simp] theorem pure_new {x : Cell} {m : List Cell} {s : S} : (RF.ok (.new x) m).pure s = .ok (.new x) s := Eq.trans rfl rfl
@[simp] theorem pure_ex {x : String} {m : List Cell} {s : S} : (RF.ex x m).pure s = .ex x s := Eq.trans rfl rfl
theorem runF_s {n : Nat} {c : CS} {as : List Sl} {m : List Cell} : runF n c as m = fin m (c ⟨as ++ List.replicate (n - as.length) .u, m⟩) := rfl
@[simp] theorem fin_d {m : List Cell} {x : D} {s : S} : fin m (.rt (.d x) s) = .ok (.d x) (s.m.take m.length) := Eq.trans rfl rfl
@[simp] theorem fin_new {m : List Cell} {x : Cell} {s : S} : fin m (.rt (.new x) s) = .ok (.new x) (s.m.take m.length) := Eq.trans rfl rfl
@[simp] theorem fin_ex {m : List Cell} {x : String} {s : S} : fin m (.ex x s) = .ex x (s.m.take m.length) := Eq.trans rfl rfl
@[simp] theorem fin_nx {m : List Cell} {s : S} : fin m (.nx s) = .ok (.d .none) (s.m.take m.length) := Eq.trans rfl rfl
/-! operations -/
section
variable {i j : Int}
@[simp] theorem opAdd_i : opAdd (.d (.int i)) (.d (.int j)) = some (.d (.int (i + j))) := Eq.trans rfl rfl
@[simp] theorem opSub_i : opSub (.d (.int i)) (.d (.int j)) = some (.d (.int (i - j))) := Eq.trans rfl rfl
@[simp] theorem opNeg_i : opNeg (.d (.int i)) = some (.d (.int (-i))) := Eq.trans rfl rfl
@[simp] theorem opAbs_i : opAbs (.d (.int i)) = some (.d (.int (if i < 0 then -i else i))) := Eq.trans rfl rfl
theorem opMul_i (h : mulOk i j = true) : opMulV (.d (.int i)) (.d (.int j)) = some (.d (.int (i * j))) := by
  show (if mulOk i j = true then _ else _) = _
  rw [if_pos h]
theorem opMod_i (h : 0 < j) : opMod (.d (.int i)) (.d (.int j)) = some (.d (.int (i % j))) := by
  show (if j ≠ 0 then some (Rv.d (.int (fmd i j))) else none) = _
  rw [if_pos (by omega)]
  unfold fmd
  rw [if_pos h]
theorem opDiv_i (h : 0 < j) (h2 : j.natAbs.log2 < 9000) : opDiv (.d (.int i)) (.d (.int j)) = some (.d (.int (i / j))) := by
  show (if j ≠ 0 ∧ j.natAbs.log2 < 9000 then some (Rv.d (.int (fdv i j))) else none) = _
  rw [if_pos ⟨by omega, h2⟩]
  unfold fdv
  rw [if_pos h]
@[simp] theorem opLt_i : opLt (.d (.int i)) (.d (.int j)) = some (.d (.bool (decide (i < j)))) := Eq.trans rfl rfl
@[simp] theorem opLe_i : opLe (.d (.int i)) (.d (.int j)) = some (.d (.bool (decide (i ≤ j)))) := Eq.trans rfl rfl
@[simp] theorem opGt_i : opGt (.d (.int i)) (.d (.int j)) = some (.d (.bool (decide (j < i)))) := Eq.trans rfl rfl
@[simp] theorem opGe_i : opGe (.d (.int i)) (.d (.int j)) = some (.d (.bool (decide (j ≤ i)))) := Eq.trans rfl rfl
@[simp] theorem opEq_i : opEq (.d (.int i)) (.d (.int j)) = some (.d (.bool (decide (i = j)))) := Eq.trans rfl rfl
@[simp] theorem opNe_i : opNe (.d (.int i)) (.d (.int j)) = some (.d (.bool (!decide (i = j)))) := Eq.trans rfl rfl
@[simp] theorem opLen_l {ds : List D} : opLen (.d (.list ds)) = some (.d (.int ds.length)) := Eq.trans rfl rfl
@[simp] theorem opLen_t {ds : List D} : opLen (.d (.tuple ds)) = some (.d (.int ds.length)) := Eq.trans rfl rfl
end
theorem atI_nat {α : Type} {xs : List α} {i : Int} {x : α} (h0 : 0 ≤ i) (h : xs[i.toNat]? = some x) : atI xs i = some x := by
  have hl : i.toNat < xs.length := (List.getElem?_eq_some_iff.mp h).1
  unfold atI ixN
  rw [if_pos h0, if_pos (by omega)]
  exact h
theorem opIx_l {ds : List D} {i : Int} {x : D} (h : atI ds i = some x) : opIx (.d (.list ds)) (.d (.int i)) = some (.d x) := by
  show (match atI ds i with | some d => some (Rv.d d) | none => none) = _
  rw [h]
theorem opIx_t {ds : List D} {i : Int} {x : D} (h : atI ds i = some x) : opIx (.d (.tuple ds)) (.d (.int i)) = some (.d x) := by
  show (match atI ds i with | some d => some (Rv.d d) | none => none) = _
  rw [h]
theorem log2_lt {n k : Nat} (h : n < 2 ^ k) : n.log2 < k + 1 := by
  by_cases h0 : n = 0
  · subst h0
    show 0 < k + 1
    omega
  · have := (Nat.log2_lt h0).mpr h
    omega
theorem mulOk_small {i j : Int} (hi : i.natAbs < 2 ^ 200) (hj : j.natAbs < 2 ^ 200) : mulOk i j = true := by
  unfold mulOk
  rw [decide_eq_true_eq]
  have h1 := log2_lt hi
  have h2 := log2_lt hj
  omega
theorem log2_many {j : Int} (h0 : 0 < j) (h : j < 2 ^ 200) : j.natAbs.log2 < 9000 := by
  have := log2_lt (n := j.natAbs) (k := 200) (by omega)
  omega
theorem opDiv_s {i j : Int} (h : 0 < j) (h2 : j < 18446744073709551616) : opDiv (.d (.int i)) (.d (.int j)) = some (.d (.int (i / j))) := opDiv_i h (log2_many h (by omega))
/-! loops -/
def Out.loop (o : Out) (k : S → Out) : Out := match o with
  | .nx s => k s
  | .ct s => k s
  | .bk s => .nx s
  | o => o
@[simp] theorem loop_nx {s : S} {k : S → Out} : (Out.nx s).loop k = k s := Eq.trans rfl rfl
@[simp] theorem loop_ct {s : S} {k : S → Out} : (Out.ct s).loop k = k s := Eq.trans rfl rfl
@[simp] theorem loop_bk {s : S} {k : S → Out} : (Out.bk s).loop k = .nx s := Eq.trans rfl rfl
@[simp] theorem loop_rt {a : Rv} {s : S} {k : S → Out} : (Out.rt a s).loop k = .rt a s := Eq.trans rfl rfl
@[simp] theorem forL_nil {tg : Tg} {body : CS} {s : S} : forL tg body [] s = .nx s := Eq.trans rfl rfl
theorem forL_cons {tg : Tg} {body : CS} {d : D} {ds : List D} {s s1 : S} (h : tg d s = some s1) : forL tg body (d :: ds) s = (body s1).loop (forL tg body ds) := by
  show (match tg d s with | none => Out.bad | some s1 => (match body s1 with
      | .nx s2 => forL tg body ds s2
      | .ct s2 => forL tg body ds s2
      | .bk s2 => .nx s2
      | o => o)) = _
  rw [h]
  dsimp only
  generalize body s1 = o
  cases o <;> rfl
theorem forL_from {tg : Tg} {body : CS} (I : Nat → S → Prop) : ∀ (ds : List D) (k : Nat) (s : S), (∀ i s d, ds[i]? = some d → I (k + i) s → ∃ s1 s2, tg d s = some s1 ∧ (body s1 = .nx s2 ∨ body s1 = .ct s2) ∧ I (k + i + 1) s2) → I k s → ∃ s', forL tg body ds s = .nx s' ∧ I (k + ds.length) s'
  | [], k, s, _, h0 => ⟨s, rfl, h0⟩
  | d :: ds, k, s, h, h0 => by
    obtain ⟨s1, s2, e1, e2, h1⟩ := h 0 s d rfl h0
    have r : forL tg body (d :: ds) s = forL tg body ds s2 := by
      rw [forL_cons e1]
      rcases e2 with e2 | e2 <;> rw [e2] <;> rfl
    rw [r]
    obtain ⟨s', e, h2⟩ := forL_from I ds (k + 1) s2 (fun i s d hd hi => by
      have := h (i + 1) s d (by simpa using hd) (by rw [show k + (i + 1) = k + 1 + i by omega]; exact hi)
      rw [show k + (i + 1) + 1 = k + 1 + i + 1 by omega] at this
      exact this) h1
    refine ⟨s', e, ?_⟩
    rw [List.length_cons, show k + (ds.length + 1) = k + 1 + ds.length by omega]
    exact h2
/-- a for loop that keeps I -/
theorem forL_inv {tg : Tg} {body : CS} (I : Nat → S → Prop) {ds : List D} {s : S} (h0 : I 0 s) (h : ∀ i s d, ds[i]? = some d → I i s → ∃ s1 s2, tg d s = some s1 ∧ (body s1 = .nx s2 ∨ body s1 = .ct s2) ∧ I (i + 1) s2) : ∃ s', forL tg body ds s = .nx s' ∧ I ds.length s' := by
  obtain ⟨s', e, h1⟩ := forL_from I ds 0 s (fun i s d hd hi => by
    rw [Nat.zero_add] at hi ⊢
    exact h i s d hd hi) h0
  rw [Nat.zero_add] at h1
  exact ⟨s', e, h1⟩
theorem rangeD_at : ∀ (n : Nat) (lo : Int) (i : Nat), i < n → (rangeD lo n)[i]? = some (.int (lo + i))
  | 0, _, _, h => by omega
  | n + 1, lo, 0, _ => by
    show some (PyData.int lo) = _
    rw [show lo + ((0 : Nat) : Int) = lo by omega]
  | n + 1, lo, i + 1, h => by
    show (rangeD (lo + 1) n)[i]? = _
    rw [rangeD_at n (lo + 1) i (by omega), show lo + 1 + (i : Int) = lo + ((i + 1 : Nat) : Int) by omega]
theorem rangeD_lt {n : Nat} {lo : Int} {i : Nat} {d : D} (h : (rangeD lo n)[i]? = some d) : i < n ∧ d = .int (lo + i) := by
  have hl : i < (rangeD lo n).length := (List.getElem?_eq_some_iff.mp h).1
  rw [rangeD_len] at hl
  refine ⟨hl, ?_⟩
  rw [rangeD_at n lo i hl] at h
  cases h
  rfl
@[simp] theorem cFor_s {ci : CI} {tg : Tg} {body : CS} {s : S} : cFor ci tg body s = (ci s).out fun ds s1 => forL tg body ds s1 := Eq.trans rfl rfl
theorem ciR1_s {c : CE} {s s1 : S} {n : Int} (h : c s = .ok (.d (.int n)) s1) (hn : -4611686018427387904 ≤ n) (hn2 : n < 4611686018427387904) : ciR1 c s = .ok (rangeD 0 n.toNat) s1 := by
  unfold ciR1
  rw [cv_s, h, bind_ok, frz_d, bind_ok]
  dsimp only
  rw [if_pos (by unfold small62; simp; omega)]
def seqR : Rv → S → R (List D)
  | .d (.list ds), s1 => .ok ds s1
  | .d (.tuple ds), s1 => .ok ds s1
  | _, _ => .bad
@[simp] theorem seqR_l {ds : List D} {s : S} : seqR (.d (.list ds)) s = .ok ds s := Eq.trans rfl rfl
@[simp] theorem seqR_t {ds : List D} {s : S} : seqR (.d (.tuple ds)) s = .ok ds s := Eq.trans rfl rfl
@[simp] theorem ciSeq_s {c : CE} {s : S} : ciSeq c s = (cv c s).bind seqR := by
  unfold ciSeq
  congr 1
  funext a s1
  rcases a with (_ | _ | _ | _ | _ | _ | _) | _ | _ <;> rfl
@[simp] theorem tgN_s {i : Nat} {d : D} {s : S} : tgN i d s = some ⟨s.v.set i (.d d), s.m⟩ := Eq.trans rfl rfl
/-! checks that the kernel runs -/
end Vm
namespace Vm
open PySem L2
/-! ### the pen that is a dict -/
def penC (cells : List Int) (at' left : Int) : Cell := .k [(.inr "cells", .list (cells.map PyData.int)), (.inr "at", .int at'), (.inr "left", .int left)]
section
variable {cells : List Int} {at' left v : Int}
@[simp] theorem odC_pen : odC (some (penC cells at' left)) = some (.c (penC cells at' left)) := rfl
@[simp] theorem pen_cells : opItem (.c (penC cells at' left)) (.d (.str "cells")) = some (.d (.list (cells.map PyData.int))) := by
  simp [opItem, penC, look, keyOf, getD]
@[simp] theorem pen_at : opItem (.c (penC cells at' left)) (.d (.str "at")) = some (.d (.int at')) := by
  have h : ((Sum.inr ("cells" : Str) : L2.Key) = Sum.inr ("at" : Str)) = False := eq_false (by decide)
  simp [opItem, penC, look, keyOf, getD, List.find?, h]
@[simp] theorem pen_left : opItem (.c (penC cells at' left)) (.d (.str "left")) = some (.d (.int left)) := by
  have h : ((Sum.inr ("cells" : Str) : L2.Key) = Sum.inr ("left" : Str)) = False := eq_false (by decide)
  have h2 : ((Sum.inr ("at" : Str) : L2.Key) = Sum.inr ("left" : Str)) = False := eq_false (by decide)
  simp [opItem, penC, look, keyOf, getD, List.find?, h, h2]
@[simp] theorem pen_put_at : putIn (penC cells at' left) (.str "at") (.int v) = some (penC cells v left) := by
  have h : ((Sum.inr ("cells" : Str) : L2.Key) = Sum.inr ("at" : Str)) = False := eq_false (by decide)
  have h2 : ((Sum.inr ("left" : Str) : L2.Key) = Sum.inr ("at" : Str)) = False := eq_false (by decide)
  simp [penC, putIn, keyOf, putD, h, h2]
@[simp] theorem pen_put_left : putIn (penC cells at' left) (.str "left") (.int v) = some (penC cells at' v) := by
  have h : ((Sum.inr ("cells" : Str) : L2.Key) = Sum.inr ("left" : Str)) = False := eq_false (by decide)
  have h2 : ((Sum.inr ("at" : Str) : L2.Key) = Sum.inr ("left" : Str)) = False := eq_false (by decide)
  simp [penC, putIn, keyOf, putD, h, h2]
end
structure IsPen (B : Nat) (p : Cell) : Prop where
  ex : ∃ cells at' left, p = penC cells at' left ∧ cells.length ≤ 63 ∧ 0 ≤ at' ∧ at' ≤ B ∧ 0 ≤ left
theorem IsPen.mono {B C : Nat} {p : Cell} (h : IsPen B p) (hb : B ≤ C) : IsPen C p := by
  obtain ⟨a, b, c, h1, h2, h3, h4, h5⟩ := h.ex
  exact ⟨a, b, c, h1, h2, h3, by omega, h5⟩
/-- a draw from many -/
def IsDraw (f : Fn) (P : Nat → Cell → Prop) : Prop := ∀ (B : Nat) (p : Cell) (r : List Cell) (many : Int), P B p → B < 1000000 → 0 < many → many.natAbs.log2 < 9000 → ∃ v p', f [.c 0, .d (.int many)] (p :: r) = .ok (.d (.int v)) (p' :: r) ∧ 0 ≤ v ∧ v < many ∧ P (B + 1) p'
end Vm
namespace Vm
open PySem L2
/-! ### more runs step by step -/
/-- the cell of a list -/
def mutR (f : List D → List D → Option (D × List D)) (ca : CA) : Rv → S → R Rv
  | .ref n, s1 => match s1.m[n]? with
    | some (.l _) => (ca s1).bind fun ds s2 => match s2.m[n]? with
      | some (.l xs) => match f xs ds with
        | some (d, ys) => .ok (.d d) ⟨s2.v, s2.m.set n (.l ys)⟩
        | none => .bad
      | _ => .bad
    | _ => .bad
  | _, _ => .bad
@[simp] theorem cMut_s {f : List D → List D → Option (D × List D)} {co : CE} {ca : CA} {s : S} : cMut f co ca s = (cv co s).bind (mutR f ca) := by
  unfold cMut
  congr 1
  funext a s1
  cases a <;> rfl
def mutK (v : List Sl) (m : List Cell) (n : Nat) : Option (D × List D) → R Rv
  | some (d, ys) => .ok (.d d) ⟨v, m.set n (.l ys)⟩
  | none => .bad
@[simp] theorem mutK_s {v : List Sl} {m : List Cell} {n : Nat} {d : D} {ys : List D} : mutK v m n (some (d, ys)) = .ok (.d d) ⟨v, m.set n (.l ys)⟩ := Eq.trans rfl rfl
def mutA (f : List D → List D → Option (D × List D)) (n : Nat) (ds : List D) (s2 : S) : R Rv := match s2.m[n]? with
  | some (.l xs) => mutK s2.v s2.m n (f xs ds)
  | _ => .bad
@[simp] theorem mutA_s {f : List D → List D → Option (D × List D)} {n : Nat} {ds xs : List D} {s2 : S} (h : s2.m[n]? = some (.l xs)) : mutA f n ds s2 = mutK s2.v s2.m n (f xs ds) := by
  unfold mutA
  rw [h]
@[simp] theorem mutR_s {f : List D → List D → Option (D × List D)} {ca : CA} {n : Nat} {s1 : S} {xs : List D} (h : s1.m[n]? = some (.l xs)) : mutR f ca (.ref n) s1 = (ca s1).bind (mutA f n) := by
  unfold mutR
  dsimp only
  rw [h]
  dsimp only
  congr 1
@[simp] theorem fRev_s {xs : List D} : fRev xs [] = some (.none, xs.reverse) := Eq.trans rfl rfl
@[simp] theorem fClr_s {xs : List D} : fClr xs [] = some (.none, []) := Eq.trans rfl rfl
/-- xs[i] = e -/
def putLR (i o v : Rv) (s3 : S) : Out := match v, o, i with
  | .d v, .ref n, .d (.int k) => match s3.m[n]? with
    | some (.l xs) => match ixN xs.length k with
      | some j => .nx ⟨s3.v, s3.m.set n (.l (xs.set j v))⟩
      | none => .bad
    | _ => .bad
  | _, _, _ => .bad
def kPutL3 (o v i : Rv) (s3 : S) : Out := putLR i o v s3
@[simp] theorem kPutL3_s {o v i : Rv} {s3 : S} : kPutL3 o v i s3 = putLR i o v s3 := Eq.trans rfl rfl
def kPutL2 (ci : CE) (v o : Rv) (s2 : S) : Out := (cv ci s2).out (kPutL3 o v)
@[simp] theorem kPutL2_s {ci : CE} {v o : Rv} {s2 : S} : kPutL2 ci v o s2 = (cv ci s2).out (kPutL3 o v) := Eq.trans rfl rfl
def kPutL1 (co ci : CE) (v : Rv) (s1 : S) : Out := (cv co s1).out (kPutL2 ci v)
@[simp] theorem kPutL1_s {co ci : CE} {v : Rv} {s1 : S} : kPutL1 co ci v s1 = (cv co s1).out (kPutL2 ci v) := Eq.trans rfl rfl
@[simp] theorem cPutL_s {co ci cw : CE} {s : S} : cPutL co ci cw s = (cv cw s).out (kPutL1 co ci) := Eq.trans rfl rfl
theorem putLR_s {n : Nat} {k : Int} {v : D} {s3 : S} {xs : List D} (h : s3.m[n]? = some (.l xs)) (h0 : 0 ≤ k) (h1 : k < xs.length) : putLR (.d (.int k)) (.ref n) (.d v) s3 = .nx ⟨s3.v, s3.m.set n (.l (xs.set k.toNat v))⟩ := by
  unfold putLR
  dsimp only
  rw [h]
  dsimp only
  unfold ixN
  rw [if_pos h0, if_pos (by omega)]
/-! slices -/
@[simp] theorem cPt_n {s : S} : cPt none s = .ok none s := Eq.trans rfl rfl
def intR : Rv → S → R Int
  | .d (.int i), s => .ok i s
  | _, _ => .bad
@[simp] theorem intR_i {i : Int} {s : S} : intR (.d (.int i)) s = .ok i s := Eq.trans rfl rfl
@[simp] theorem cI_s {c : CE} {s : S} : cI c s = (cv c s).bind intR := by
  unfold cI
  congr 1
  funext a s1
  rcases a with (_ | _ | _ | _ | _ | _ | _) | _ | _ <;> rfl
def kPt (i : Int) (s1 : S) : R (Option Int) := .ok (some i) s1
@[simp] theorem kPt_s {i : Int} {s1 : S} : kPt i s1 = .ok (some i) s1 := Eq.trans rfl rfl
@[simp] theorem cPt_s {c : CE} {s : S} : cPt (some c) s = (cI c s).bind kPt := Eq.trans rfl rfl
def kSl3 (a : Rv) (l u : Option Int) (s3 : S) : R Rv := odK1 (fun o => opSl o l u) (a.od s3.m) s3
@[simp] theorem kSl3_s {a : Rv} {l u : Option Int} {s3 : S} : kSl3 a l u s3 = odK1 (fun o => opSl o l u) (a.od s3.m) s3 := Eq.trans rfl rfl
def kSl2 (hi : S → R (Option Int)) (a : Rv) (l : Option Int) (s2 : S) : R Rv := (hi s2).bind (kSl3 a l)
@[simp] theorem kSl2_s {hi : S → R (Option Int)} {a : Rv} {l : Option Int} {s2 : S} : kSl2 hi a l s2 = (hi s2).bind (kSl3 a l) := Eq.trans rfl rfl
def kSl1 (lo hi : S → R (Option Int)) (a : Rv) (s1 : S) : R Rv := (lo s1).bind (kSl2 hi a)
@[simp] theorem kSl1_s {lo hi : S → R (Option Int)} {a : Rv} {s1 : S} : kSl1 lo hi a s1 = (lo s1).bind (kSl2 hi a) := Eq.trans rfl rfl
@[simp] theorem cSl_s {c : CE} {lo hi : S → R (Option Int)} {s : S} : cSl c lo hi s = (cv c s).bind (kSl1 lo hi) := by
  unfold cSl
  congr 1
  funext a s1
  rw [kSl1_s]
  congr 1
  funext l s2
  rw [kSl2_s]
  congr 1
  funext u s3
  rw [kSl3_s]
  cases a.od s3.m with
  | none => rfl
  | some o => exact opt_rv
@[simp] theorem opSl_l {ds : List D} {lo hi : Option Int} : opSl (.d (.list ds)) lo hi = some (.new (.l (cutD ds lo hi))) := Eq.trans rfl rfl
@[simp] theorem opSl_t {ds : List D} {lo hi : Option Int} : opSl (.d (.tuple ds)) lo hi = some (.d (.tuple (cutD ds lo hi))) := Eq.trans rfl rfl
theorem cutD_to {α : Type} {xs : List α} {k : Int} (h : 0 ≤ k) : cutD xs none (some k) = xs.take k.toNat := by
  unfold cutD HT.sIx
  dsimp only
  rw [if_neg (by omega), List.drop_zero, Nat.sub_zero]
  by_cases hl : k.toNat ≤ xs.length
  · rw [Nat.min_eq_left hl]
  · rw [Nat.min_eq_right (by omega), List.take_length, List.take_of_length_le (by omega)]
/-! dicts -/
def kDisp (ks : List L2.Key) (ds : List D) (s1 : S) : R Rv := .ok (.new (.k (mergeD [] ks ds))) s1
@[simp] theorem kDisp_s {ks : List L2.Key} {ds : List D} {s1 : S} : kDisp ks ds s1 = .ok (.new (.k (mergeD [] ks ds))) s1 := Eq.trans rfl rfl
@[simp] theorem cDisp_s {ks : List L2.Key} {ca : CA} {s : S} : cDisp ks ca s = (ca s).bind (kDisp ks) := Eq.trans rfl rfl
@[simp] theorem setMR_pen {i : Nat} {a : List Int} {b c : Int} {s1 : S} : setMR i (.new (penC a b c)) s1 = .nx ⟨s1.v.set i (.c s1.m.length), s1.m ++ [penC a b c]⟩ := Eq.trans rfl rfl
@[simp] theorem pure_pen {a : List Int} {b c : Int} {m : List Cell} {s : S} : (RF.ok (.new (penC a b c)) m).pure s = .ok (.new (penC a b c)) s := Eq.trans rfl rfl
/-! comprehensions -/
/-- a comprehension that changes the cells: I k acc m -/
theorem lcL_inv {own : List Nat} {v0 : List Sl} {tg : Tg} {tt : CT} {el : CE} (I : Nat → List D → List Cell → Prop) : ∀ (ds : List D) (k : Nat) (acc : List D) (m : List Cell), (∀ i acc m d, ds[i]? = some d → I (k + i) acc m → ∃ t, tg d ⟨wipeV v0 own, m⟩ = some t ∧ ∃ b t2, tt t = .ok b t2 ∧ (b = false → I (k + i + 1) acc t2.m) ∧ (b = true → ∃ x s3, cv el t2 = .ok (.d x) s3 ∧ I (k + i + 1) (acc ++ [x]) s3.m)) →
    I k acc m → ∃ acc' m', lcL own v0 tg tt el ds acc m = .ok (.new (.l acc')) ⟨v0, m'⟩ ∧ I (k + ds.length) acc' m'
  | [], k, acc, m, _, h0 => ⟨acc, m, rfl, h0⟩
  | d :: ds, k, acc, m, h, h0 => by
    obtain ⟨t, h1, b, t2, h2, h3, h4⟩ := h 0 acc m d rfl h0
    have go : ∀ acc2 m2, I (k + 1) acc2 m2 → ∃ acc' m', lcL own v0 tg tt el ds acc2 m2 = .ok (.new (.l acc')) ⟨v0, m'⟩ ∧ I (k + (ds.length + 1)) acc' m' := fun acc2 m2 hi => by
      obtain ⟨a, b, e, q⟩ := lcL_inv I ds (k + 1) acc2 m2 (fun i acc m d hd hi => by
        have := h (i + 1) acc m d (by simpa using hd) (by rw [show k + (i + 1) = k + 1 + i by omega]; exact hi)
        rw [show k + (i + 1) + 1 = k + 1 + i + 1 by omega] at this
        exact this) hi
      exact ⟨a, b, e, by rw [show k + (ds.length + 1) = k + 1 + ds.length by omega]; exact q⟩
    unfold lcL
    rw [h1]
    dsimp only
    rw [h2]
    cases b with
    | false =>
      obtain ⟨a, b, e, q⟩ := go acc t2.m (h3 rfl)
      exact ⟨a, b, e, q⟩
    | true =>
      obtain ⟨x, s3, h5, h6⟩ := h4 rfl
      obtain ⟨a, b, e, q⟩ := go (acc ++ [x]) s3.m h6
      refine ⟨a, b, ?_, q⟩
      show ((cv el t2).nx.bind _) = _
      rw [h5]
      exact e
theorem lc_inv {own : List Nat} {ci : CI} {tg : Tg} {tt : CT} {el : CE} {s s1 : S} {ds : List D} (I : Nat → List D → List Cell → Prop) (h : ci s = .ok ds s1) (hl : ds.length ≤ 16000000) (h0 : I 0 [] s1.m)
    (hb : ∀ i acc m d, ds[i]? = some d → I i acc m → ∃ t, tg d ⟨wipeV s1.v own, m⟩ = some t ∧ ∃ b t2, tt t = .ok b t2 ∧ (b = false → I (i + 1) acc t2.m) ∧ (b = true → ∃ x s3, cv el t2 = .ok (.d x) s3 ∧ I (i + 1) (acc ++ [x]) s3.m)) :
    ∃ acc' m', cLc own ci tg tt el s = .ok (.new (.l acc')) ⟨s1.v, m'⟩ ∧ I ds.length acc' m' := by
  obtain ⟨a, b, e, q⟩ := lcL_inv (own := own) (v0 := s1.v) (tg := tg) (tt := tt) (el := el) I ds 0 [] s1.m (fun i acc m d hd hi => by
    rw [Nat.zero_add] at hi ⊢
    exact hb i acc m d hd hi) h0
  rw [Nat.zero_add] at q
  refine ⟨a, b, ?_, q⟩
  unfold cLc
  rw [h, bind_ok, if_pos hl]
  exact e
@[simp] theorem ctYes_s {s : S} : ctYes s = .ok true s := Eq.trans rfl rfl
/-! two names at once -/
def parR (i j : Nat) (x y : Rv) (s2 : S) : Out := match slOf x, slOf y with
  | some p, some q => .nx ⟨(s2.v.set i p).set j q, s2.m⟩
  | _, _ => .bad
@[simp] theorem parR_d {i j : Nat} {x y : D} {s : S} : parR i j (.d x) (.d y) s = .nx ⟨(s.v.set i (.d x)).set j (.d y), s.m⟩ := Eq.trans rfl rfl
def kPar (i j : Nat) (b : CE) (x : Rv) (s1 : S) : Out := (cv b s1).out (parR i j x)
@[simp] theorem kPar_s {i j : Nat} {b : CE} {x : Rv} {s1 : S} : kPar i j b x s1 = (cv b s1).out (parR i j x) := Eq.trans rfl rfl
@[simp] theorem cPar_s {i j : Nat} {a b : CE} {s : S} : cPar i j a b s = (cv a s).out (kPar i j b) := Eq.trans rfl rfl
theorem ciR1_c {n : Int} {s : S} (hn : -4611686018427387904 ≤ n) (hn2 : n < 4611686018427387904) : ciR1 (cC (.int n)) s = .ok (rangeD 0 n.toNat) s := ciR1_s rfl hn hn2
/-! while -/
theorem whL_s {t : CT} {b : CS} {n : Nat} {s : S} : whL t b (n + 1) s = (t s).out fun x s1 => if x = true then (b s1).loop (whL t b n) else .nx s1 := by
  show (t s).out _ = _
  congr 1
/-- a while loop: the variant falls, the invariant stays -/
theorem whL_inv {t : CT} {b : CS} (I : Nat → S → Prop) (Q : S → Prop) (h : ∀ k s, I k s → (∃ s1, t s = .ok false s1 ∧ Q s1) ∨ ∃ s1 s2 j, t s = .ok true s1 ∧ (b s1 = .nx s2 ∨ b s1 = .ct s2) ∧ j < k ∧ I j s2) : ∀ (n k : Nat) (s : S), k < n → I k s → ∃ s', whL t b n s = .nx s' ∧ Q s'
  | 0, k, s, hn, _ => by omega
  | n + 1, k, s, hn, hi => by
    rw [whL_s]
    rcases h k s hi with ⟨s1, e, q⟩ | ⟨s1, s2, j, e, e2, hj, q⟩
    · refine ⟨s1, ?_, q⟩
      rw [e]
      rfl
    · rw [e]
      obtain ⟨s', e3, q'⟩ := whL_inv I Q h n j s2 (by omega) q
      refine ⟨s', ?_, q'⟩
      rcases e2 with e2 | e2 <;> (show ((b s1).loop _) = _; rw [e2]; exact e3)
end Vm
namespace Vm
open PySem L2 PySem.Spec PyProof.Rows
/-! ### repr -/
def okr (d : D) : Bool := okd d && d.showable && decide (d.shown.length ≤ 16000000)
theorem plain_noDict : (∀ d : D, d.plain = true → d.hasDict = false) ∧ (∀ p : D × D, True) ∧ (∀ ds : List D, PyData.plainAll ds = true → PyData.hasDictAll ds = false) ∧ (∀ kvs : List (D × D), True) := by
  refine ⟨?_, fun _ => trivial, ?_, fun _ => trivial⟩
  · exact noD
  · exact noDs
where
  noD : ∀ d : D, d.plain = true → d.hasDict = false
    | .none, _ => rfl
    | .bool _, _ => rfl
    | .int _, _ => rfl
    | .str _, _ => rfl
    | .list xs, h => by
      simp only [PyData.hasDict]
      exact noDs xs (by simpa [PyData.plain] using h)
    | .tuple xs, h => by
      simp only [PyData.hasDict]
      exact noDs xs (by simpa [PyData.plain] using h)
    | .dict _, h => nomatch h
  noDs : ∀ ds : List D, PyData.plainAll ds = true → PyData.hasDictAll ds = false
    | [], _ => rfl
    | x :: xs, h => by
      have h2 : x.plain = true ∧ PyData.plainAll xs = true := by simpa [PyData.plainAll] using h
      simp only [PyData.hasDictAll, noD x h2.1, noDs xs h2.2, Bool.or_self]
mutual
def noLs : D → Bool
  | .none | .bool _ | .int _ | .str _ => true
  | .list _ => false
  | .tuple xs => noLsAll xs
  | .dict es => noLsKv es
def noLsAll : List D → Bool
  | [] => true
  | x :: xs => noLs x && noLsAll xs
def noLsKv : List (D × D) → Bool
  | [] => true
  | (k, v) :: r => noLs k && noLs v && noLsKv r
end
mutual
theorem Rp.readsN {X : Cx} {pins : List (Addr × Obj)} {σ : L2.St} {H : Hp} {s : Shared} (I : Inv X pins σ H s) : ∀ (d : D) (v : V) (u : Value), noLs d = true → Rp X.K H v d → RelV v u → ∃ as, Reads s.heap u d as ∧ sysModules ∉ as
  | .none, _, _, _, h, r => by
    cases h
    cases r
    exact ⟨_, Reads.none, by simp⟩
  | .bool b, _, _, _, h, r => by
    cases h
    cases r
    exact ⟨_, Reads.bool b, by simp⟩
  | .int i, _, _, _, h, r => by
    cases h
    obtain ⟨t, rfl⟩ := r
    exact ⟨_, Reads.int i t, by simp⟩
  | .str x, _, _, _, h, r => by
    cases h
    obtain ⟨t, rfl⟩ := r
    exact ⟨_, Reads.str x t, by simp⟩
  | .list _, _, _, hp, _, _ => by simp [noLs] at hp
  | .tuple ds, _, _, hp, h, r => by
    cases h with
    | tup hs ha =>
      cases r
      obtain ⟨its, rv, ⟨o, ho, hc, n, hd⟩, _⟩ := I.tuple (SqT.of (K := X.K) hs)
      obtain ⟨as, hr, hn⟩ := RpAll.readsN I ds _ its (by simpa [noLs] using hp) ha rv
      exact ⟨_, Reads.tuple ho hc hd hr, hn⟩
  | .dict es, _, _, hp, h, r => by
    cases h with
    | dct hH hkv =>
      cases r
      obtain ⟨_, hne, vs, kv, o, es', ep, ho, ex, hd, _, pr, _⟩ := I.hok _ _ hH
      obtain ⟨as, bs, h1, h2, h3, h4⟩ := RpKv.readsN I es _ vs es'.toList (by simpa [noLs] using hp) hkv kv pr
      refine ⟨_, Reads.dict ho ex.1 hd h1 h2, fun z => ?_⟩
      rcases List.mem_append.mp z with z | z
      · rcases List.mem_cons.mp z with z | z
        · rw [z] at hne
          simp at hne
        · exact h3 z
      · exact h4 z
    | dctT a b => exact absurd hp (by simp [noLs, noLsKv, tagT])
    | dctN a g b => exact absurd hp (by simp [noLs, noLsKv, tagN])
    | dctF a b => exact absurd hp (by simp [noLs, noLsKv, tagF])
theorem RpAll.readsN {X : Cx} {pins : List (Addr × Obj)} {σ : L2.St} {H : Hp} {s : Shared} (I : Inv X pins σ H s) : ∀ (ds : List D) (vs : List V) (us : List Value), noLsAll ds = true → RpAll X.K H vs ds → Vals vs us → ∃ as, ReadsAll s.heap us ds as ∧ sysModules ∉ as
  | [], _, _, _, h, r => by
    cases h
    cases r
    exact ⟨_, ReadsAll.nil, by simp⟩
  | d :: ds, _, _, hp, h, r => by
    have hp' : noLs d = true ∧ noLsAll ds = true := by simpa [noLsAll] using hp
    cases h with
    | cons h1 h2 =>
      cases r with
      | cons r1 r2 =>
        obtain ⟨as, q1, n1⟩ := Rp.readsN I d _ _ hp'.1 h1 r1
        obtain ⟨bs, q2, n2⟩ := RpAll.readsN I ds _ _ hp'.2 h2 r2
        exact ⟨_, ReadsAll.cons q1 q2, fun z => (List.mem_append.mp z).elim n1 n2⟩
theorem RpKv.readsN {X : Cx} {pins : List (Addr × Obj)} {σ : L2.St} {H : Hp} {s : Shared} (I : Inv X pins σ H s) : ∀ (es : List (D × D)) (ws : List (L2.Key × V)) (vs : List (L2.Key × Value)) (ds : List DictEntry), noLsKv es = true → RpKv X.K H ws es → KV ws vs → Pairs (mixKind X.prog X.w) ds vs →
    ∃ as bs, ReadsAll s.heap (ds.map (·.key)) (es.map (·.1)) as ∧ ReadsAll s.heap (ds.map (·.val)) (es.map (·.2)) bs ∧ sysModules ∉ as ∧ sysModules ∉ bs
  | [], _, _, _, _, h, k, p => by
    cases h
    cases k
    cases p
    exact ⟨_, _, ReadsAll.nil, ReadsAll.nil, by simp, by simp⟩
  | (kd, d) :: es, _, _, _, hp, h, k, p => by
    have hp' : noLs d = true ∧ noLsKv es = true := by
      have hp : (noLs kd && noLs d && noLsKv es) = true := hp
      rw [Bool.and_eq_true, Bool.and_eq_true] at hp
      exact ⟨hp.1.2, hp.2⟩
    cases h with
    | cons h1 h2 =>
      cases k with
      | cons k1 k2 =>
        cases p with
        | @cons e0 kv0 _ _ p1 p2 p3 =>
          obtain ⟨as, bs, r1, r2, n1, n2⟩ := RpKv.readsN I es _ _ _ hp'.2 h2 k2 p3
          obtain ⟨cs, q, n3⟩ := Rp.readsN I d _ _ hp'.1 h1 (p2 ▸ k1.2)
          rw [← k1.1] at p1
          rename_i kk _ _ _ _ _
          have key : ∃ es, Reads s.heap e0.key (kD kk) es ∧ sysModules ∉ es := by
            rcases keyIs_shape p1 with ⟨i, t, e1, e2⟩ | ⟨x, t, e1, e2⟩
            · have e1 : kk = Sum.inl i := e1
              rw [e1, e2]
              exact ⟨[], Reads.int i t, by simp⟩
            · have e1 : kk = Sum.inr x := e1
              rw [e1, e2]
              exact ⟨[], Reads.str x t, by simp⟩
          obtain ⟨fs, q2, n4⟩ := key
          exact ⟨_, _, ReadsAll.cons q2 r1, ReadsAll.cons q r2, fun z => (List.mem_append.mp z).elim n4 n1, fun z => (List.mem_append.mp z).elim n3 n2⟩
end
def okrN (d : D) : Bool := noLs d && decide (d.depth ≤ 60) && d.showable && decide (d.shown.length ≤ 16000000)
theorem okrN_iff {d : D} (h : okrN d = true) : noLs d = true ∧ d.depth ≤ 60 ∧ d.showable = true ∧ d.shown.length ≤ sizeLine := by
  unfold okrN at h
  rw [Bool.and_eq_true, Bool.and_eq_true, Bool.and_eq_true, decide_eq_true_eq, decide_eq_true_eq] at h
  exact ⟨h.1.1.1, h.1.1.2, h.1.2, sz16 h.2⟩
def rReprV (K : Fg) : V → Hp → VK → Prop := fun x H Q => ∃ d, Rp K H x d ∧ (okr d = true ∨ okrN d = true) ∧ Q (.str d.shown) H
theorem okr_iff {d : D} (h : okr d = true) : d.plain = true ∧ d.depth ≤ 60 ∧ d.showable = true ∧ d.shown.length ≤ sizeLine := by
  unfold okr at h
  rw [Bool.and_eq_true, Bool.and_eq_true, decide_eq_true_eq] at h
  obtain ⟨a, b⟩ := okd_iff.mp h.1.1
  exact ⟨a, b, h.1.2, sz16 h.2⟩
theorem call_reprV {X : Cx} {k : Nat} (hr : Rg k X.A) : CallR X (.builtin "repr") (fun xs H Q => ∃ x, xs = [x] ∧ rReprV X.K x H Q) := by
  intro pins s σ H xs us Q I r h
  obtain ⟨x, rfl, d, hd, ok, q⟩ := h
  obtain ⟨u, rfl, rx⟩ := vals1 r
  have hu := hr.units
  obtain ⟨as, r1, hN, dp, sh, sz⟩ : ∃ as, Reads s.heap u d as ∧ (d.hasDict = true → sysModules ∉ as) ∧ d.depth ≤ 60 ∧ d.showable = true ∧ d.shown.length ≤ sizeLine := by
    rcases ok with ok | ok
    · obtain ⟨pd, dp, sh, sz⟩ := okr_iff ok
      obtain ⟨as, r1⟩ := Rp.reads I d x u pd hd rx
      exact ⟨as, r1, PyData.noDict_hsm (plain_noDict.1 d pd), dp, sh, sz⟩
    · obtain ⟨pd, dp, sh, sz⟩ := okrN_iff ok
      obtain ⟨as, r1, hn⟩ := Rp.readsN I d x u pd hd rx
      exact ⟨as, r1, fun _ => hn, dp, sh, sz⟩
  have seqs : ∀ a, u = .ref a → wpAny (model X.prog X.w) X.A (call (.builtin "repr") [u]) (EP X pins σ Q) X.xe s := fun a e => by
    subst e
    refine repr_of_reads' r1 sh hN hr.g (by omega) (fun _ _ e => e) (fun h' t tk hk => ⟨.str d.shown, H, I.kept hk, ⟨t, rfl⟩, q⟩) sz
  cases r1 with
  | list h1 h2 h3 h4 => exact seqs _ rfl
  | tuple h1 h2 h3 h4 => exact seqs _ rfl
  | dict h1 h2 h3 h4 h5 => exact seqs _ rfl
  | none => exact PySem.P.repr_of_none ⟨.str _, H, I.tok _, ⟨_, rfl⟩, q⟩
  | bool b => exact PySem.P.repr_of_bool ⟨.str _, H, I.tok _, ⟨_, rfl⟩, q⟩
  | int i => exact PySem.P.repr_of_int (by simpa [PyData.showable] using sh) ⟨.str _, H, I.tok _, ⟨_, rfl⟩, q⟩
  | str z => exact PySem.P.repr_of_str ⟨.str _, H, I.tok _, ⟨_, rfl⟩, q⟩ (by simpa [PyData.shown] using sz)
def opRepr : Od → Option Rv
  | .d d => if okr d = true ∨ okrN d = true then some (.d (.str d.shown)) else none
  | _ => none
theorem s_repr {K : Fg} : Op1S K (fun v H Q => ∃ x, [v] = [x] ∧ rReprV K x H Q) opRepr := by
  intro w x o rv Q hx h e q
  unfold opRepr at e
  split at e
  · split at e
    · rename_i d hd
      cases e
      exact ⟨x, rfl, d, h.rp hx, hd, post_str q⟩
    · cases e
  · cases e
/-! ### in, not in, of a list, a tuple -/
def inB (d : D) (xs : List D) : Option Bool := if okd d = true ∧ okd (.list xs) = true then some (xs.any fun y => PyData.eqv y d) else none
/-! ### max, min of a list, a tuple of ints -/
def maxI : List Int → Option Int
  | [] => none
  | n :: ns => some (ns.foldl max n)
def minI : List Int → Option Int
  | [] => none
  | n :: ns => some (ns.foldl min n)
def opBest (f : List Int → Option Int) : Od → Option Rv
  | .d (.list ds) => (ints? ds).bind fun ns => (f ns).bind fun m => some (.d (.int m))
  | .d (.tuple ds) => (ints? ds).bind fun ns => (f ns).bind fun m => some (.d (.int m))
  | _ => none
def opMax : Od → Option Rv := opBest maxI
def opMin : Od → Option Rv := opBest minI
/-! ### sorted(xs, reverse=True), ints -/
def insD (i : Int) : List Int → List Int
  | [] => [i]
  | j :: js => if j ≤ i then i :: j :: js else j :: insD i js
def sortD : List Int → List Int
  | [] => []
  | i :: is => insD i (sortD is)
theorem insD_perm (i : Int) : ∀ js : List Int, (insD i js).Perm (i :: js)
  | [] => .refl _
  | j :: js => by
    unfold insD
    split
    · exact .refl _
    · exact (List.Perm.cons j (insD_perm i js)).trans (List.Perm.swap i j js)
theorem sortD_perm : ∀ js : List Int, (sortD js).Perm js
  | [] => .refl _
  | j :: js => (insD_perm j _).trans (List.Perm.cons j (sortD_perm js))
theorem insD_pw (i : Int) : ∀ js : List Int, js.Pairwise (· ≥ ·) → (insD i js).Pairwise (· ≥ ·)
  | [], _ => by
    show [i].Pairwise _
    simp
  | j :: js, h => by
    have h2 := List.pairwise_cons.mp h
    unfold insD
    split
    · refine List.pairwise_cons.mpr ⟨fun k hk => ?_, h⟩
      rcases List.mem_cons.mp hk with rfl | hk
      · assumption
      · have := h2.1 k hk
        show k ≤ i
        have : k ≤ j := this
        omega
    · refine List.pairwise_cons.mpr ⟨fun k hk => ?_, insD_pw i js h2.2⟩
      have := (insD_perm i js).mem_iff.mp hk
      rcases List.mem_cons.mp this with rfl | hk
      · show k ≤ j
        omega
      · exact h2.1 k hk
theorem sortD_pw : ∀ js : List Int, (sortD js).Pairwise (· ≥ ·)
  | [] => List.Pairwise.nil
  | j :: js => insD_pw j _ (sortD_pw js)
def opSortedR : Od → Option Rv
  | .d (.list ds) => (ints? ds).bind fun ns => some (.new (.l ((sortD ns).map PyData.int)))
  | _ => none
end Vm
namespace Vm
open PySem L2
/-! ### the second draw -/
/-! ### lists and tuples of ints -/
theorem plain_ints : ∀ ns : List Int, PyData.plainAll (ns.map PyData.int) = true
  | [] => rfl
  | n :: ns => by
    show PyData.plainAll (.int n :: ns.map PyData.int) = true
    rw [PyData.plainAll, plain_ints ns]
    rfl
theorem okd_intsT (ns : List Int) : okd (.tuple (ns.map PyData.int)) = true := by
  unfold okd
  rw [Bool.and_eq_true, decide_eq_true_eq]
  refine ⟨by rw [PyData.plain]; exact plain_ints ns, ?_⟩
  show PyData.depthAll (ns.map PyData.int) + 1 ≤ 60
  rw [PySem.W.depth_ints]
  omega
theorem eqv_ints : ∀ as bs : List Int, PyData.eqvAll (as.map PyData.int) (bs.map PyData.int) = decide (as = bs)
  | [], [] => rfl
  | [], b :: bs => rfl
  | a :: as, [] => rfl
  | a :: as, b :: bs => by
    show PyData.eqvAll (.int a :: as.map PyData.int) (.int b :: bs.map PyData.int) = _
    rw [PyData.eqvAll, eqv_ints as bs]
    show ((a == b) && decide (as = bs)) = _
    by_cases h : a = b
    · subst h
      by_cases h2 : as = bs
      · simp [h2]
      · simp [h2]
    · simp [h]
theorem opEq_intsT {as bs : List Int} : opEq (.d (.tuple (as.map PyData.int))) (.d (.tuple (bs.map PyData.int))) = some (.d (.bool (decide (as = bs)))) := by
  unfold opEq eqB
  dsimp only
  rw [if_pos ⟨okd_intsT as, okd_intsT bs⟩, show PyData.eqv (.tuple (as.map PyData.int)) (.tuple (bs.map PyData.int)) = _ from by rw [PyData.eqv], eqv_ints]
def rangeI (lo : Int) : Nat → List Int
  | 0 => []
  | n + 1 => lo :: rangeI (lo + 1) n
theorem rangeD_eq : ∀ (n : Nat) (lo : Int), rangeD lo n = (rangeI lo n).map PyData.int
  | 0, lo => rfl
  | n + 1, lo => congrArg (PyData.int lo :: ·) (rangeD_eq n (lo + 1))
theorem opAdd_l {xs ys : List D} (h : xs.length + ys.length ≤ 16000000) : opAdd (.d (.list xs)) (.d (.list ys)) = some (.new (.l (xs ++ ys))) := by
  show (if xs.length + ys.length ≤ 16000000 then _ else _) = _
  rw [if_pos h]
@[simp] theorem opSum_il {ns : List Int} : opSum (.d (.list (ns.map PyData.int))) = some (.d (.int ns.sum)) := by
  unfold opSum
  dsimp only
  rw [ints?_map]
@[simp] theorem opSum_it {ns : List Int} : opSum (.d (.tuple (ns.map PyData.int))) = some (.d (.int ns.sum)) := by
  unfold opSum
  dsimp only
  rw [ints?_map]
@[simp] theorem opTuple_l {ds : List D} : opTuple (.d (.list ds)) = some (.d (.tuple ds)) := Eq.trans rfl rfl
@[simp] theorem opTuple_t {ds : List D} : opTuple (.d (.tuple ds)) = some (.d (.tuple ds)) := Eq.trans rfl rfl
@[simp] theorem opList_l {ds : List D} : opList (.d (.list ds)) = some (.new (.l ds)) := Eq.trans rfl rfl
@[simp] theorem opList_t {ds : List D} : opList (.d (.tuple ds)) = some (.new (.l ds)) := Eq.trans rfl rfl
@[simp] theorem opMax_l {ns : List Int} : opMax (.d (.list (ns.map PyData.int))) = (maxI ns).bind fun m => some (.d (.int m)) := by
  unfold opMax opBest
  dsimp only
  rw [ints?_map]
  rfl
@[simp] theorem opMax_t {ns : List Int} : opMax (.d (.tuple (ns.map PyData.int))) = (maxI ns).bind fun m => some (.d (.int m)) := by
  unfold opMax opBest
  dsimp only
  rw [ints?_map]
  rfl
@[simp] theorem opMin_l {ns : List Int} : opMin (.d (.list (ns.map PyData.int))) = (minI ns).bind fun m => some (.d (.int m)) := by
  unfold opMin opBest
  dsimp only
  rw [ints?_map]
  rfl
@[simp] theorem opMin_t {ns : List Int} : opMin (.d (.tuple (ns.map PyData.int))) = (minI ns).bind fun m => some (.d (.int m)) := by
  unfold opMin opBest
  dsimp only
  rw [ints?_map]
  rfl
@[simp] theorem opIsi_d {T : String} {d : D} : opIsi T (.d d) = some (.d (.bool (isiB T (tyN (.d d))))) := Eq.trans rfl rfl
@[simp] theorem opMin2_i {i j : Int} : opMin2 (.d (.int i)) (.d (.int j)) = some (.d (.int (if j < i then j else i))) := Eq.trans rfl rfl
@[simp] theorem opMax2_i {i j : Int} : opMax2 (.d (.int i)) (.d (.int j)) = some (.d (.int (if j > i then j else i))) := Eq.trans rfl rfl
/-- what stands at the end of the cells -/
@[simp] theorem set_last {g : List Cell} {c c' : Cell} : (g ++ [c]).set g.length c' = g ++ [c'] := by
  rw [List.set_append_right _ _ (Nat.le_refl _), Nat.sub_self]
  rfl
theorem fin_cell {m : List Cell} {k : Nat} {s : S} {c : Cell} (h : m.length ≤ k) (h2 : s.m[k]? = some c) (h3 : c ≠ .gone) : fin m (.rt (.ref k) s) = .ok (.new c) (s.m.take m.length) := by
  show (if m.length ≤ k then _ else _) = _
  rw [if_pos h, h2]
  cases c with
  | gone => exact absurd rfl h3
  | l _ => rfl
  | k _ => rfl
  | t _ => rfl
  | r _ => rfl
  | i _ _ _ => rfl
  | g _ => rfl
@[simp] theorem fin_l {m : List Cell} {k : Nat} {s : S} {ds : List D} (h : m.length ≤ k) (h2 : s.m[k]? = some (.l ds)) : fin m (.rt (.ref k) s) = .ok (.new (.l ds)) (s.m.take m.length) := fin_cell h h2 nofun
end Vm
namespace Vm
open PySem L2
/-! ### how many bits -/
def Bs (k : Nat) (x : Int) : Prop := x.natAbs < 2 ^ k
theorem Bs.mono {j k : Nat} {x : Int} (h : Bs j x) (q : j ≤ k) : Bs k x := Nat.lt_of_lt_of_le h (Nat.pow_le_pow_right (by decide) q)
theorem Bs.le {k : Nat} {x y : Int} (h : Bs k y) (q : x.natAbs ≤ y.natAbs) : Bs k x := Nat.lt_of_le_of_lt q h
theorem Bs.mul {j k : Nat} {x y : Int} (h : Bs j x) (q : Bs k y) : Bs (j + k) (x * y) := by
  unfold Bs at *
  rw [Int.natAbs_mul, Nat.pow_add]
  exact Nat.mul_lt_mul'' h q
theorem Bs.add {j k m : Nat} {x y : Int} (h : Bs j x) (q : Bs k y) (h1 : j ≤ m) (h2 : k ≤ m) : Bs (m + 1) (x + y) := by
  have h := h.mono h1
  have q := q.mono h2
  unfold Bs at *
  rw [Nat.pow_succ]
  have := Int.natAbs_add_le x y
  omega
theorem Bs.log {k : Nat} {x : Int} (h : Bs k x) : x.natAbs.log2 < k + 1 := log2_lt h
theorem Bs.mulOk {j k : Nat} {x y : Int} (h : Bs j x) (q : Bs k y) (hk : j + k < 90000000) : mulOk x y = true := by
  unfold Vm.mulOk
  rw [decide_eq_true_eq]
  have := h.log
  have := q.log
  omega
/-! ### the greatest common measure -/
def cMeasure : CS := (cSeq (cWh (fun _ => 1000000) (cB (cOp2 opGt (cVar 1) (cC (.int 0))))
 (cPar 0 1 (cVar 1) (cOp2 opMod (cVar 0) (cVar 1))))
 (cRet (cVar 0)))
def fMeasure : Fn := runF 2 cMeasure
theorem two_mod {x y : Nat} (h0 : 0 < y) (h : y ≤ x) : 2 * (x % y) < x := by
  have h1 := Nat.mod_lt x h0
  have h2 := Nat.div_add_mod x y
  have h3 : 1 ≤ x / y := Nat.div_pos h h0
  have h4 : y * 1 ≤ y * (x / y) := Nat.mul_le_mul_left y h3
  omega
theorem measure_ok {a b k : Nat} (hb : b < 2 ^ k) (hk : k < 400000) : fMeasure [.d (.int a), .d (.int b)] [] = .ok (.d (.int (Nat.gcd a b : Nat))) [] := by
  obtain ⟨s', e, q⟩ := whL_inv (t := cB (cOp2 opGt (cVar 1) (cC (.int 0)))) (b := cPar 0 1 (cVar 1) (cOp2 opMod (cVar 0) (cVar 1)))
    (fun k s => ∃ x y j : Nat, s = ⟨[.d (.int x), .d (.int y)], []⟩ ∧ Nat.gcd x y = Nat.gcd a b ∧ ((k = 2 * j ∧ y < 2 ^ j) ∨ (k + 1 = 2 * j ∧ y < x ∧ x < 2 ^ j)))
    (fun s => s = ⟨[.d (.int (Nat.gcd a b : Nat)), .d (.int 0)], []⟩) (fun k s hi => by
      obtain ⟨x, y, j, rfl, hg, hc⟩ := hi
      by_cases hy : y = 0
      · subst hy
        refine .inl ⟨⟨[.d (.int x), .d (.int 0)], []⟩, by simp, ?_⟩
        rw [Nat.gcd_zero_right] at hg
        rw [hg]
      · have hy0 : 0 < y := Nat.pos_of_ne_zero hy
        have hyI : (0 : Int) < (y : Int) := by omega
        have hm := Nat.mod_lt x hy0
        have om : opMod (.d (.int x)) (.d (.int y)) = some (.d (.int ((x % y : Nat) : Int))) := opMod_i hyI
        have hgcd : Nat.gcd y (x % y) = Nat.gcd a b := by
          rw [← hg, Nat.gcd_comm x y, Nat.gcd_rec y x, Nat.gcd_comm]
        suffices hh : ∃ k', k' < k ∧ ∃ j : Nat, ((k' = 2 * j ∧ x % y < 2 ^ j) ∨ (k' + 1 = 2 * j ∧ x % y < y ∧ y < 2 ^ j)) by
          obtain ⟨k', hk', j', hj⟩ := hh
          exact .inr ⟨⟨[.d (.int x), .d (.int y)], []⟩, ⟨[.d (.int y), .d (.int ((x % y : Nat) : Int))], []⟩, k', by simp [hy0], .inl (by simp [om]), hk', ⟨y, x % y, j', rfl, hgcd, hj⟩⟩
        rcases hc with ⟨hk, hlt⟩ | ⟨hk, hlt, hx⟩
        · have hj : j ≠ 0 := fun z => by
            rw [z] at hlt
            have : (2 : Nat) ^ 0 = 1 := rfl
            omega
          exact ⟨2 * j - 1, by omega, j, .inr ⟨by omega, hm, hlt⟩⟩
        · have h2 := two_mod hy0 (Nat.le_of_lt hlt)
          have hj : j = j - 1 + 1 := by omega
          rw [hj, Nat.pow_succ] at hx
          exact ⟨2 * (j - 1), by omega, j - 1, .inl ⟨rfl, by omega⟩⟩) 1000000 (2 * k) ⟨[.d (.int a), .d (.int b)], []⟩ (by omega) ⟨a, b, k, rfl, rfl, .inl ⟨rfl, hb⟩⟩
  unfold fMeasure
  rw [runF_s]
  show fin [] (cSeq _ _ _) = _
  rw [cSeq_s]
  show fin [] ((whL _ _ 1000000 ⟨[.d (.int a), .d (.int b)], []⟩).then _) = _
  rw [e, q]
  simp
/-! ### shares -/
def shD (p q : Int) : D := .tuple [.int p, .int q]
def cShare : CS :=
 (cSeq (cIfS (cB (cOp2 opEq (cVar 1) (cC (.int 0))))
 (cRaise "NoShare")
 cNx)
 (cSeq (cSet 2 (cCallP fMeasure (lCons (cOp1 opAbs (cVar 0)) (lCons (cOp1 opAbs (cVar 1)) lNil))))
 (cSeq (cIfS (cB (cOp2 opLt (cVar 1) (cC (.int 0))))
 (cSet 2 (cOp2 opSub (cC (.int 0)) (cVar 2)))
 cNx)
 (cRet (cTup (cCons (cOp2 opDiv (cVar 0) (cVar 2)) (cCons (cOp2 opDiv (cVar 1) (cVar 2)) cNil)))))))
def fShare : Fn := runF 3 cShare
@[simp] theorem cRaise_s {n : String} {s : S} : cRaise n s = .ex n s := rfl
/-- in lowest terms, of so many bits -/
structure Sh (k : Nat) (p q : Int) : Prop where
  pos : 1 ≤ q
  cop : Int.gcd p q = 1
  bp : Bs k p
  bq : Bs k q
theorem abs_nat (x : Int) : (if x < 0 then -x else x) = ((x.natAbs : Nat) : Int) := by
  split <;> omega
theorem gcd_pos {a b : Int} (h : b ≠ 0) : 0 < Int.gcd a b := Int.gcd_pos_iff.mpr (.inr h)
theorem share_ok {top bot : Int} {j k : Nat} (hb : bot ≠ 0) (ht : Bs j top) (hk : Bs k bot) (hk2 : k ≤ 8900) :
    ∃ p q, fShare [.d (.int top), .d (.int bot)] [] = .ok (.d (shD p q)) [] ∧ Sh (max j k) p q ∧ p * bot = top * q := by
  have hg := gcd_pos (a := top) hb
  obtain ⟨g, hgd⟩ : ∃ g : Nat, g = Int.gcd top bot := ⟨_, rfl⟩
  rw [← hgd] at hg
  obtain ⟨t, ht'⟩ : (g : Int) ∣ top := by rw [hgd]; exact Int.gcd_dvd_left ..
  obtain ⟨u, hu'⟩ : (g : Int) ∣ bot := by rw [hgd]; exact Int.gcd_dvd_right ..
  have hg0 : (0 : Int) < g := by omega
  have hgn : (g : Int) ≠ 0 := by omega
  have hu0 : u ≠ 0 := fun z => hb (by rw [hu', z, Int.mul_zero])
  have e := measure_ok (a := top.natAbs) (b := bot.natAbs) (k := k) hk (by omega)
  have hgg : Nat.gcd top.natAbs bot.natAbs = g := hgd.symm
  rw [hgg] at e
  have cop : Int.gcd t u = 1 := by
    have h1 : Int.gcd top bot = g * Int.gcd t u := by
      rw [ht', hu', Int.gcd_mul_left]
      rfl
    rw [← hgd] at h1
    exact Nat.eq_of_mul_eq_mul_left hg (by rw [← h1, Nat.mul_one])
  have hlt : (g : Int).natAbs.log2 < 9000 := by
    have hb1 : Bs k (g : Int) := hk.le (by
      show g ≤ bot.natAbs
      exact Nat.le_of_dvd (Int.natAbs_pos.mpr hb) (by rw [hgd]; exact Int.natAbs_dvd_natAbs.mpr (Int.gcd_dvd_right ..)))
    have := hb1.log
    omega
  have hat : t.natAbs ≤ top.natAbs := by
    rw [ht', Int.natAbs_mul]
    exact Nat.le_mul_of_pos_left _ hg
  have hau : u.natAbs ≤ bot.natAbs := by
    rw [hu', Int.natAbs_mul]
    exact Nat.le_mul_of_pos_left _ hg
  have o1 : opAbs (.d (.int top)) = some (.d (.int (top.natAbs : Nat))) := by rw [opAbs_i, abs_nat]
  have o2 : opAbs (.d (.int bot)) = some (.d (.int (bot.natAbs : Nat))) := by rw [opAbs_i, abs_nat]
  by_cases hn : bot < 0
  · have hdv : ∀ x : Int, ((g : Int) * x).fdiv (0 - (g : Int)) = -x := fun x => by
      rw [show (g : Int) * x = (0 - (g : Int)) * (-x) by rw [Int.zero_sub, Int.neg_mul_neg], Int.mul_fdiv_cancel_left _ (by omega)]
    have d1 : opDiv (.d (.int top)) (.d (.int (0 - (g : Int)))) = some (.d (.int (-t))) := by
      show (if (0 - (g : Int)) ≠ 0 ∧ (0 - (g : Int)).natAbs.log2 < 9000 then some (Rv.d (.int (fdv top (0 - (g : Int))))) else none) = _
      rw [if_pos ⟨by omega, by rw [Int.zero_sub, Int.natAbs_neg]; exact hlt⟩]
      unfold fdv
      rw [if_neg (by omega), ht', hdv]
    have d2 : opDiv (.d (.int bot)) (.d (.int (0 - (g : Int)))) = some (.d (.int (-u))) := by
      show (if (0 - (g : Int)) ≠ 0 ∧ (0 - (g : Int)).natAbs.log2 < 9000 then some (Rv.d (.int (fdv bot (0 - (g : Int))))) else none) = _
      rw [if_pos ⟨by omega, by rw [Int.zero_sub, Int.natAbs_neg]; exact hlt⟩]
      unfold fdv
      rw [if_neg (by omega), hu', hdv]
    have hun : u < 0 := by
      rcases Int.lt_trichotomy u 0 with h | h | h
      · exact h
      · exact absurd h hu0
      · have := Int.mul_pos hg0 h
        omega
    refine ⟨-t, -u, ?_, ⟨by omega, by rw [Int.gcd_neg, Int.neg_gcd]; exact cop, (ht.le (by rw [Int.natAbs_neg]; exact hat)).mono (Nat.le_max_left ..), (hk.le (by rw [Int.natAbs_neg]; exact hau)).mono (Nat.le_max_right ..)⟩, ?_⟩
    · unfold fShare
      rw [runF_s]
      simp [-opAbs_i, -Int.zero_sub, cShare, o1, o2, e, hn, hb, d1, d2, shD]
    · rw [ht', hu']
      rw [Int.mul_neg, Int.neg_mul, Int.mul_left_comm, Int.mul_assoc]
  · have hbp : 0 < bot := by omega
    have d1 : opDiv (.d (.int top)) (.d (.int g)) = some (.d (.int t)) := by
      rw [opDiv_i hg0 hlt, ht', Int.mul_ediv_cancel_left _ hgn]
    have d2 : opDiv (.d (.int bot)) (.d (.int g)) = some (.d (.int u)) := by
      rw [opDiv_i hg0 hlt, hu', Int.mul_ediv_cancel_left _ hgn]
    have hup : 0 < u := by
      rcases Int.lt_trichotomy u 0 with h | h | h
      · have := Int.mul_neg_of_pos_of_neg hg0 h
        omega
      · exact absurd h hu0
      · exact h
    refine ⟨t, u, ?_, ⟨by omega, cop, (ht.le hat).mono (Nat.le_max_left ..), (hk.le hau).mono (Nat.le_max_right ..)⟩, ?_⟩
    · unfold fShare
      rw [runF_s]
      simp [-opAbs_i, cShare, o1, o2, e, hn, hb, d1, d2, shD]
    · rw [ht', hu']
      rw [Int.mul_left_comm, Int.mul_assoc]
theorem cop_dvd {a b c : Int} (h : a ∣ b * c) (g : Int.gcd a b = 1) : a ∣ c := by
  have h1 : a.natAbs ∣ b.natAbs * c.natAbs := by
    rw [← Int.natAbs_mul]
    exact Int.natAbs_dvd_natAbs.mpr h
  exact Int.natAbs_dvd_natAbs.mp (Nat.Coprime.dvd_of_dvd_mul_left g h1)
/-- shares that stand for the same are the same -/
theorem low_one {p q p' q' : Int} (h : 1 ≤ q) (h' : 1 ≤ q') (c : Int.gcd p q = 1) (c' : Int.gcd p' q' = 1) (e : p * q' = p' * q) : p = p' ∧ q = q' := by
  have d1 : q ∣ q' := by
    have : q ∣ p * q' := ⟨p', by rw [e, Int.mul_comm]⟩
    exact cop_dvd this (by rw [Int.gcd_comm]; exact c)
  have d2 : q' ∣ q := by
    have : q' ∣ p' * q := ⟨p, by rw [← e, Int.mul_comm]⟩
    exact cop_dvd this (by rw [Int.gcd_comm]; exact c')
  have hq : q = q' := Int.le_antisymm (Int.le_of_dvd (by omega) d1) (Int.le_of_dvd (by omega) d2)
  subst hq
  exact ⟨Int.eq_of_mul_eq_mul_right (by omega) e, rfl⟩
end Vm
namespace Vm
open PySem L2
@[simp] theorem sh_0 {p q : Int} : opIx (.d (shD p q)) (.d (.int 0)) = some (.d (.int p)) := rfl
@[simp] theorem sh_1 {p q : Int} : opIx (.d (shD p q)) (.d (.int 1)) = some (.d (.int q)) := rfl
def fPlus : Fn := runF 2 (cRet (cCallP fShare (lCons (cOp2 opAdd (cOp2 opMulV (cOp2 opIx (cVar 0) (cC (.int 0))) (cOp2 opIx (cVar 1) (cC (.int 1)))) (cOp2 opMulV (cOp2 opIx (cVar 1) (cC (.int 0))) (cOp2 opIx (cVar 0) (cC (.int 1))))) (lCons (cOp2 opMulV (cOp2 opIx (cVar 0) (cC (.int 1))) (cOp2 opIx (cVar 1) (cC (.int 1)))) lNil))))
def fTimes : Fn := runF 2 (cRet (cCallP fShare (lCons (cOp2 opMulV (cOp2 opIx (cVar 0) (cC (.int 0))) (cOp2 opIx (cVar 1) (cC (.int 0)))) (lCons (cOp2 opMulV (cOp2 opIx (cVar 0) (cC (.int 1))) (cOp2 opIx (cVar 1) (cC (.int 1)))) lNil))))
def cTotal : CS := (cSeq (cSet 1 (cTup (cCons (cC (.int 0)) (cCons (cC (.int 1)) cNil))))
 (cSeq (cFor (ciSeq (cVar 0)) (tgN 2)
 (cSet 1 (cCallP fPlus (lCons (cVar 1) (lCons (cVar 2) lNil)))))
 (cRet (cVar 1))))
def fTotal : Fn := runF 3 cTotal
section
variable {j k : Nat} {p1 q1 p2 q2 : Int}
theorem Sh.mono (h : Sh j p1 q1) (hk : j ≤ k) : Sh k p1 q1 := ⟨h.pos, h.cop, h.bp.mono hk, h.bq.mono hk⟩
theorem plus_ok (a : Sh j p1 q1) (b : Sh k p2 q2) (hk : j + k ≤ 8000) : ∃ p q, fPlus [.d (shD p1 q1), .d (shD p2 q2)] [] = .ok (.d (shD p q)) [] ∧ Sh (j + k + 1) p q ∧ p * (q1 * q2) = (p1 * q2 + p2 * q1) * q := by
  have a1 := a.pos
  have b1 := b.pos
  have hb : q1 * q2 ≠ 0 := Int.mul_ne_zero (by omega) (by omega)
  have s1 : Bs (j + k + 1) (p1 * q2 + p2 * q1) := (a.bp.mul b.bq).add (b.bp.mul a.bq) (Nat.le_refl _) (by omega)
  obtain ⟨p, q, e, h, r⟩ := share_ok hb s1 (a.bq.mul b.bq) (by omega)
  refine ⟨p, q, ?_, h.mono (by omega), r⟩
  have m1 := opMul_i (a.bp.mulOk b.bq (by omega))
  have m2 := opMul_i (b.bp.mulOk a.bq (by omega))
  have m3 := opMul_i (a.bq.mulOk b.bq (by omega))
  unfold fPlus
  rw [runF_s]
  simp [m1, m2, m3, e]
theorem times_ok (a : Sh j p1 q1) (b : Sh k p2 q2) (hk : j + k ≤ 8000) : ∃ p q, fTimes [.d (shD p1 q1), .d (shD p2 q2)] [] = .ok (.d (shD p q)) [] ∧ Sh (j + k) p q ∧ p * (q1 * q2) = (p1 * p2) * q := by
  have a1 := a.pos
  have b1 := b.pos
  have hb : q1 * q2 ≠ 0 := Int.mul_ne_zero (by omega) (by omega)
  obtain ⟨p, q, e, h, r⟩ := share_ok hb (a.bp.mul b.bp) (a.bq.mul b.bq) (by omega)
  refine ⟨p, q, ?_, h.mono (by omega), r⟩
  have m1 := opMul_i (a.bp.mulOk b.bp (by omega))
  have m3 := opMul_i (a.bq.mulOk b.bq (by omega))
  unfold fTimes
  rw [runF_s]
  simp [m1, m3, e]
end
theorem abs_s {x : Int} : opAbs (.d (.int x)) = some (.d (.int (x.natAbs : Nat))) := by rw [opAbs_i, abs_nat]
/-- the law's reduced -/
def cReduced : CS :=
 (cSeq (cSet 2 (cCallP fMeasure (lCons (cOp1 opAbs (cVar 0)) (lCons (cVar 1) lNil))))
 (cRet (cTup (cCons (cOp2 opDiv (cVar 0) (cVar 2)) (cCons (cOp2 opDiv (cVar 1) (cVar 2)) cNil)))))
def fReduced : Fn := runF 3 cReduced
theorem reduced_ok {top bot : Int} {j k : Nat} (hb : 1 ≤ bot) (ht : Bs j top) (hk : Bs k bot) (hk2 : k ≤ 8900) :
    ∃ p q, fReduced [.d (.int top), .d (.int bot)] [] = .ok (.d (shD p q)) [] ∧ Sh (max j k) p q ∧ p * bot = top * q := by
  have hb0 : bot ≠ 0 := by omega
  have hg := gcd_pos (a := top) hb0
  obtain ⟨g, hgd⟩ : ∃ g : Nat, g = Int.gcd top bot := ⟨_, rfl⟩
  rw [← hgd] at hg
  obtain ⟨t, ht'⟩ : (g : Int) ∣ top := by rw [hgd]; exact Int.gcd_dvd_left ..
  obtain ⟨u, hu'⟩ : (g : Int) ∣ bot := by rw [hgd]; exact Int.gcd_dvd_right ..
  have hg0 : (0 : Int) < g := by omega
  have hgn : (g : Int) ≠ 0 := by omega
  have e := measure_ok (a := top.natAbs) (b := bot.natAbs) (k := k) hk (by omega)
  have hgg : Nat.gcd top.natAbs bot.natAbs = g := hgd.symm
  rw [hgg, show ((bot.natAbs : Nat) : Int) = bot by omega] at e
  have cop : Int.gcd t u = 1 := by
    have h1 : Int.gcd top bot = g * Int.gcd t u := by
      rw [ht', hu', Int.gcd_mul_left]
      rfl
    rw [← hgd] at h1
    exact Nat.eq_of_mul_eq_mul_left hg (by rw [← h1, Nat.mul_one])
  have hlt : (g : Int).natAbs.log2 < 9000 := by
    have hb1 : Bs k (g : Int) := hk.le (by
      show g ≤ bot.natAbs
      exact Nat.le_of_dvd (Int.natAbs_pos.mpr hb0) (by rw [hgd]; exact Int.natAbs_dvd_natAbs.mpr (Int.gcd_dvd_right ..)))
    have := hb1.log
    omega
  have hat : t.natAbs ≤ top.natAbs := by
    rw [ht', Int.natAbs_mul]
    exact Nat.le_mul_of_pos_left _ hg
  have hau : u.natAbs ≤ bot.natAbs := by
    rw [hu', Int.natAbs_mul]
    exact Nat.le_mul_of_pos_left _ hg
  have d1 : opDiv (.d (.int top)) (.d (.int g)) = some (.d (.int t)) := by
    rw [opDiv_i hg0 hlt, ht', Int.mul_ediv_cancel_left _ hgn]
  have d2 : opDiv (.d (.int bot)) (.d (.int g)) = some (.d (.int u)) := by
    rw [opDiv_i hg0 hlt, hu', Int.mul_ediv_cancel_left _ hgn]
  have hup : 0 < u := by
    rcases Int.lt_trichotomy u 0 with h | h | h
    · have := Int.mul_neg_of_pos_of_neg hg0 h
      omega
    · rw [h, Int.mul_zero] at hu'
      omega
    · exact h
  refine ⟨t, u, ?_, ⟨by omega, cop, (ht.le hat).mono (Nat.le_max_left ..), (hk.le hau).mono (Nat.le_max_right ..)⟩, ?_⟩
  · unfold fReduced
    rw [runF_s]
    simp [-opAbs_i, cReduced, abs_s, e, d1, d2, shD]
  · rw [ht', hu']
    rw [Int.mul_left_comm, Int.mul_assoc]
/-- the law's look at a share that was told -/
def fWhole : Fn := runF 1 (cRet (cAnd (cOp1 (opIsi "int") (cVar 0)) (cNot (cOp1 (opIsi "bool") (cVar 0)))))
@[simp] theorem isiB_tt : isiB "tuple" "tuple" = true := rfl
end Vm
namespace Vm
open PySem L2 PySem.Spec PyProof.Rows
/-! ### methods that change nothing, of one argument -/
def tyO (T : String) : Od → Bool
  | .d (.list _) => T == "list"
  | .d (.str _) => T == "str"
  | .c (.k _) => T == "dict"
  | _ => false
def cMt1 (T : String) (f : Od → Od → Option Rv) (co c : CE) : CE := fun s => (cv co s).bind fun x s1 => opt (x.od s1.m) fun o1 => if tyO T o1 = true then (cv c s1).bind fun y s2 => opt (x.od s2.m) fun o => opt (y.od s2.m) fun o' => opt (f o o') fun rv => .ok rv s2 else .bad
section
variable {X : Cx} {ec : EC} {W : WX}
/-! ### xs.count(x) -/
/-! ### xs.index(x), flat items -/
def mtK (T : String) (f : Od → Od → Option Rv) (c : CE) (x : Rv) : Option Od → S → R Rv
  | some o1, s1 => if tyO T o1 = true then (cv c s1).bind (kOp2b f x) else .bad
  | none, _ => .bad
@[simp] theorem mtK_s {T : String} {f : Od → Od → Option Rv} {c : CE} {x : Rv} {o1 : Od} {s1 : S} : mtK T f c x (some o1) s1 = if tyO T o1 = true then (cv c s1).bind (kOp2b f x) else .bad := Eq.trans rfl rfl
def kMt (T : String) (f : Od → Od → Option Rv) (c : CE) (x : Rv) (s1 : S) : R Rv := mtK T f c x (x.od s1.m) s1
@[simp] theorem kMt_s {T : String} {f : Od → Od → Option Rv} {c : CE} {x : Rv} {s1 : S} : kMt T f c x s1 = mtK T f c x (x.od s1.m) s1 := Eq.trans rfl rfl
@[simp] theorem cMt1_s {T : String} {f : Od → Od → Option Rv} {co c : CE} {s : S} : cMt1 T f co c s = (cv co s).bind (kMt T f c) := by
  unfold cMt1
  congr 1
  funext x s1
  rw [kMt_s]
  cases x.od s1.m with
  | none => rfl
  | some o1 =>
    show (if tyO T o1 = true then _ else _) = _
    rw [mtK_s]
    split
    · congr 1
      funext y s2
      exact opt_od2
    · rfl
@[simp] theorem tyO_l {ds : List D} : tyO "list" (.d (.list ds)) = true := Eq.trans rfl rfl
/-! ### xs[::-1] -/
def opRev : Od → Option Rv
  | .d (.list ds) => some (.new (.l ds.reverse))
  | _ => none
end
end Vm
namespace Vm
open PySem L2
/-! ### shares by what they stand for -/
theorem opNe_self {d : D} (h : okd d = true) : opNe (.d d) (.d d) = some (.d (.bool false)) := by
  have e : eqB d d = some true := by
    unfold eqB
    split
    · simp
    · rw [if_pos ⟨h, h⟩, SeqAt.eqv_refl_plain _ (okd_iff.mp h).1]
  unfold opNe
  dsimp only
  rw [e]
  rfl
theorem opEq_self {d : D} (h : okd d = true) : opEq (.d d) (.d d) = some (.d (.bool true)) := by
  have e : eqB d d = some true := by
    unfold eqB
    split
    · simp
    · rw [if_pos ⟨h, h⟩, SeqAt.eqv_refl_plain _ (okd_iff.mp h).1]
  unfold opEq
  dsimp only
  rw [e]
structure Tell (k : Nat) (d : D) (x : Rat) : Prop where
  ex : ∃ p q, d = shD p q ∧ Sh k p q ∧ (p : Rat) = x * q
theorem rat_pos {q : Int} (h : 1 ≤ q) : (0 : Rat) < q := Rat.intCast_pos.mpr (by omega)
theorem rat_ne {q : Int} (h : 1 ≤ q) : (q : Rat) ≠ 0 := fun z => by
  have := Rat.intCast_eq_zero_iff.mp z
  omega
theorem Tell.okd {k : Nat} {d : D} {x : Rat} (h : Tell k d x) : Vm.okd d = true := by
  obtain ⟨p, q, rfl, _⟩ := h.ex
  exact okd_intsT [p, q]
theorem Tell.ne {k : Nat} {d : D} {x : Rat} (h : Tell k d x) : opNe (.d d) (.d d) = some (.d (.bool false)) := opNe_self h.okd
theorem Tell.eq {k : Nat} {d : D} {x : Rat} (h : Tell k d x) : opEq (.d d) (.d d) = some (.d (.bool true)) := opEq_self h.okd
theorem Tell.mono {j k : Nat} {d : D} {x : Rat} (h : Tell j d x) (q : j ≤ k) : Tell k d x := by
  obtain ⟨p, q', e, s, r⟩ := h.ex
  exact ⟨p, q', e, s.mono q, r⟩
theorem Tell.to {k : Nat} {d : D} {x y : Rat} (h : Tell k d x) (e : x = y) : Tell k d y := e ▸ h
theorem Sh.tell {k : Nat} {p q : Int} (h : Sh k p q) : ∃ x : Rat, Tell k (shD p q) x ∧ (p : Rat) = x * q := by
  have hq := rat_ne h.pos
  refine ⟨(p : Rat) / q, ⟨p, q, rfl, h, ?_⟩, ?_⟩ <;> grind
theorem Tell.one {j k : Nat} {d e : D} {x : Rat} (h : Tell j d x) (g : Tell k e x) : d = e := by
  obtain ⟨p, q, rfl, s, r⟩ := h.ex
  obtain ⟨p', q', rfl, s', r'⟩ := g.ex
  have : p * q' = p' * q := by
    rw [← Rat.intCast_inj, Rat.intCast_mul, Rat.intCast_mul, r, r']
    grind
  obtain ⟨rfl, rfl⟩ := low_one s.pos s'.pos s.cop s'.cop this
  rfl
section
variable {j k : Nat} {a b : D} {x y : Rat}
theorem plus_t (h : Tell j a x) (g : Tell k b y) (hk : j + k ≤ 8000) : ∃ d, fPlus [.d a, .d b] [] = .ok (.d d) [] ∧ Tell (j + k + 1) d (x + y) := by
  obtain ⟨p1, q1, rfl, s1, r1⟩ := h.ex
  obtain ⟨p2, q2, rfl, s2, r2⟩ := g.ex
  obtain ⟨p, q, e, s, r⟩ := plus_ok s1 s2 hk
  refine ⟨shD p q, e, p, q, rfl, s, ?_⟩
  have h1 := rat_ne s1.pos
  have h2 := rat_ne s2.pos
  rw [← Rat.intCast_inj, Rat.intCast_mul, Rat.intCast_mul, Rat.intCast_mul, Rat.intCast_add, Rat.intCast_mul, Rat.intCast_mul, r1, r2] at r
  have h3 : (q1 : Rat) * q2 ≠ 0 := by grind
  grind
end
theorem tell_none : Tell 1 (shD 0 1) 0 := ⟨0, 1, rfl, ⟨by decide, by decide, show (0 : Int).natAbs < 2 ^ 1 by decide, show (1 : Int).natAbs < 2 ^ 1 by decide⟩, by rw [Rat.zero_mul]; rfl⟩
/-- total of a list of told shares, of at most k bits each -/
theorem total_t {k : Nat} : ∀ (ds : List D) (xs : List Rat) (hl : ds.length = xs.length), (∀ (i : Nat) (d : D) (x : Rat), ds[i]? = some d → xs[i]? = some x → Tell k d x) → 1 + (k + 1) * ds.length + k ≤ 8000 → ∃ d, fTotal [.d (.list ds)] [] = .ok (.d d) [] ∧ Tell (1 + (k + 1) * ds.length) d xs.sum := by
  intro ds xs hl h hk
  obtain ⟨s', e, a, x2, y, rfl, ha, hy⟩ := forL_inv (tg := tgN 2) (body := cSet 1 (cCallP fPlus (lCons (cVar 1) (lCons (cVar 2) lNil)))) (ds := ds) (fun i s => ∃ a x2 y, s = ⟨[.d (.list ds), .d a, x2], []⟩ ∧ Tell (1 + (k + 1) * i) a y ∧ y = (xs.take i).sum) (s := ⟨[.d (.list ds), .d (shD 0 1), .u], []⟩) ⟨_, _, 0, rfl, tell_none, by simp⟩ fun i s d hd hi => by
    obtain ⟨a, x2, y, rfl, ha, hy⟩ := hi
    have hi := (List.getElem?_eq_some_iff.mp hd).1
    have hx : xs[i]? = some xs[i] := List.getElem?_eq_getElem (by omega)
    have hm : (k + 1) * (i + 1) ≤ (k + 1) * ds.length := Nat.mul_le_mul_left _ (by omega)
    have hs : (k + 1) * (i + 1) = (k + 1) * i + (k + 1) := Nat.mul_succ _ _
    obtain ⟨b, e, hb⟩ := plus_t ha (h i d _ hd hx) (by omega)
    refine ⟨_, ⟨[.d (.list ds), .d b, .d d], []⟩, rfl, .inl ?_, b, _, y + xs[i], rfl, hb.mono (by omega), ?_⟩
    · simp [e]
    · rw [List.take_add_one, hx, List.sum_append, hy]
      simp [Rat.add_zero]
  refine ⟨a, ?_, ?_⟩
  · unfold fTotal
    rw [runF_s]
    have z : PyData.tuple [PyData.int 0, PyData.int 1] = shD 0 1 := rfl
    simp [cTotal, z, e]
  · rw [hl, List.take_length] at hy
    exact hy ▸ ha
end Vm
namespace Vm
open PySem L2 PySem.Spec PyProof.Rows
/-! ### how long a repr is -/
structure Fits (d : D) (n m : Nat) : Prop where
  len : d.shown.length ≤ n
  sh : d.showable = true
  pl : d.plain = true
  dp : d.depth ≤ m
theorem Fits.mono {d : D} {n m n' m' : Nat} (h : Fits d n m) (a : n ≤ n') (b : m ≤ m') : Fits d n' m' := ⟨Nat.le_trans h.len a, h.sh, h.pl, Nat.le_trans h.dp b⟩
theorem Fits.int {k : Nat} {i : Int} (h : Bs k i) (hk : k ≤ 1918) : Fits (.int i) (k + 2) 0 := by
  have hl := h.log
  refine ⟨?_, ?_, rfl, Nat.le_refl _⟩
  · have e := int_text_length_le (k := k + 1) (by omega) hl
    show (Str.ofString (toString i)).length ≤ k + 2
    rw [PySem.ofString_length]
    exact e
  · simp only [PyData.showable, decide_eq_true_eq]
    omega
theorem Fits.none : Fits .none 4 0 := ⟨by decide, rfl, rfl, by decide⟩
theorem Fits.bool {b : Bool} : Fits (.bool b) 5 0 := ⟨by cases b <;> decide, rfl, rfl, Nat.le_refl _⟩
theorem fits_all {n m : Nat} : ∀ {ds : List D}, (∀ d, d ∈ ds → Fits d n m) → piled (PyData.shownAll ds) ≤ ds.length * (n + 2) ∧ PyData.showableAll ds = true ∧ PyData.plainAll ds = true ∧ PyData.depthAll ds ≤ m
  | [], _ => ⟨Nat.zero_le _, rfl, rfl, Nat.zero_le _⟩
  | d :: ds, h => by
    obtain ⟨a, b, c, e⟩ := fits_all (ds := ds) fun x hx => h x (List.mem_cons_of_mem _ hx)
    have h0 := h d (List.mem_cons_self ..)
    refine ⟨?_, ?_, ?_, ?_⟩
    · show piled (d.shown :: PyData.shownAll ds) ≤ _
      rw [piled_cons, List.length_cons, Nat.add_mul]
      have := h0.len
      omega
    · simp only [PyData.showableAll, h0.sh, b, Bool.and_self]
    · simp only [PyData.plainAll, h0.pl, c, Bool.and_self]
    · show max d.depth (PyData.depthAll ds) ≤ m
      exact Nat.max_le.mpr ⟨h0.dp, e⟩
theorem listText_le (ts : List Str) : (listText ts).length ≤ piled ts + 2 := by
  unfold listText
  cases ts with
  | nil => decide
  | cons t r =>
    show (textFrom 1 ("[" ++ "" ++ t) r ++ "]").length ≤ _
    rw [Str.length_append, textFrom_length_pos _ _ _ (by decide), piled_cons, Str.length_append, Str.length_append]
    show (("[" : Str).length + ("" : Str).length + t.length + piled r) + ("]" : Str).length ≤ _
    have h1 : ("[" : Str).length = 1 := rfl
    have h2 : ("" : Str).length = 0 := rfl
    have h3 : ("]" : Str).length = 1 := rfl
    omega
theorem Fits.list {n m : Nat} {ds : List D} (h : ∀ d, d ∈ ds → Fits d n m) : Fits (.list ds) (ds.length * (n + 2) + 2) (m + 1) := by
  obtain ⟨a, b, c, e⟩ := fits_all h
  refine ⟨?_, by simp only [PyData.showable]; exact b, by rw [PyData.plain]; exact c, Nat.succ_le_succ e⟩
  simp only [PyData.shown]
  have := listText_le (PyData.shownAll ds)
  omega
theorem Fits.tuple {n m : Nat} {ds : List D} (h : ∀ d, d ∈ ds → Fits d n m) : Fits (.tuple ds) (ds.length * (n + 2) + 2) (m + 1) := by
  obtain ⟨a, b, c, e⟩ := fits_all h
  refine ⟨?_, by simp only [PyData.showable]; exact b, by rw [PyData.plain]; exact c, Nat.succ_le_succ e⟩
  simp only [PyData.shown]
  have := fmt_text (PyData.shownAll ds)
  omega
theorem opRepr_s {d : D} (h : okr d = true) : opRepr (.d d) = some (.d (.str d.shown)) := by
  show (if okr d = true ∨ okrN d = true then _ else _) = _
  rw [if_pos (.inl h)]
theorem opRepr_n {d : D} (h : okrN d = true) : opRepr (.d d) = some (.d (.str d.shown)) := by
  show (if okr d = true ∨ okrN d = true then _ else _) = _
  rw [if_pos (.inr h)]
theorem str_ne {z : Str} : opNe (.d (.str z)) (.d (.str z)) = some (.d (.bool false)) := opNe_self rfl
@[simp] theorem opRev_l {ds : List D} : opRev (.d (.list ds)) = some (.new (.l ds.reverse)) := Eq.trans rfl rfl
@[simp] theorem opIs_b {neg a b : Bool} : opIs neg (.d (.bool a)) (.d (.bool b)) = some (.d (.bool (if neg then !decide (a = b) else decide (a = b)))) := Eq.trans rfl rfl
@[simp] theorem opIs_n {neg : Bool} {d : D} : opIs neg (.d d) (.d .none) = some (.d (.bool (if neg then !isNone d else isNone d))) := Eq.trans rfl rfl
/-! ### targets that are tuples -/
@[simp] theorem tgNil_s {s : S} : tgNil [] s = some s := Eq.trans rfl rfl
@[simp] theorem tgTup_s {n : Nat} {t : Tgs} {ds : List D} {s : S} (h : ds.length = n) : tgTup n t (.tuple ds) s = t ds s := by
  show (if ds.length = n then _ else _) = _
  rw [if_pos h]
def asgR (tg : Tg) : Rv → S → Out
  | .d d, s1 => match tg d s1 with
    | some s2 => .nx s2
    | none => .bad
  | _, _ => .bad
@[simp] theorem cAsg_s {tg : Tg} {c : CE} {s : S} : cAsg tg c s = (cv c s).out (asgR tg) := by
  unfold cAsg
  congr 1
  funext a s1
  cases a <;> rfl
/-- a cell becomes data -/
theorem cFz_l {i n : Nat} {s : S} {ds : List D} (h : s.v[i]? = some (.c n)) (h2 : s.m[n]? = some (.l ds)) : cFz i s = .ok (.d (.list ds)) ⟨s.v.set i (.d (.list ds)), s.m.set n .gone⟩ := by
  unfold cFz
  rw [h]
  dsimp only
  rw [h2]
end Vm
namespace Vm
open PySem L2
/-! ### stands that are drawn -/
/-! ### the first of the least -/
structure FirstMin (xs : List Int) (b : Nat) : Prop where
  lt : b < xs.length
  le : ∀ (j : Nat) (y : Int), xs[j]? = some y → xs[b]?.getD 0 ≤ y
  fst : ∀ (j : Nat) (y : Int), j < b → xs[j]? = some y → xs[b]?.getD 0 < y
theorem FirstMin.one {xs : List Int} {a b : Nat} (h : FirstMin xs a) (g : FirstMin xs b) : a = b := by
  have ha : xs[a]? = some (xs[a]?.getD 0) := by rw [List.getElem?_eq_getElem h.lt]; rfl
  have hb : xs[b]? = some (xs[b]?.getD 0) := by rw [List.getElem?_eq_getElem g.lt]; rfl
  rcases Nat.lt_trichotomy a b with q | q | q
  · have := g.fst a _ q ha
    have := h.le b _ hb
    omega
  · exact q
  · have := h.fst b _ q hb
    have := g.le a _ ha
    omega
end Vm
namespace Vm
open PySem L2
/-- the first of the least of the first i -/
structure PreMin (xs : List Int) (i b : Nat) : Prop where
  lt : b < xs.length
  le : ∀ (j : Nat) (y : Int), j < i → xs[j]? = some y → xs[b]?.getD 0 ≤ y
  fst : ∀ (j : Nat) (y : Int), j < b → xs[j]? = some y → xs[b]?.getD 0 < y
theorem PreMin.start {xs : List Int} (h : xs ≠ []) : PreMin xs 0 0 := ⟨List.length_pos_iff.mpr h, (fun j y hj => nomatch hj), (fun j y hj => nomatch hj)⟩
theorem PreMin.take {xs : List Int} {i b : Nat} (h : PreMin xs i b) (hi : i < xs.length) (hlt : xs[i] < xs[b]'h.lt) : PreMin xs (i + 1) i := by
  have hx : xs[i]? = some xs[i] := List.getElem?_eq_getElem hi
  have hxb : xs[b]? = some (xs[b]'h.lt) := List.getElem?_eq_getElem h.lt
  refine ⟨hi, fun j y hj hy => ?_, fun j y hj hy => ?_⟩
  · rw [hx]
    show xs[i] ≤ y
    by_cases hji : j = i
    · subst hji
      rw [hx] at hy
      cases hy
      omega
    · have := h.le j y (by omega) hy
      rw [hxb] at this
      have : xs[b]'h.lt ≤ y := this
      omega
  · rw [hx]
    show xs[i] < y
    have := h.le j y hj hy
    rw [hxb] at this
    have : xs[b]'h.lt ≤ y := this
    omega
theorem PreMin.keep {xs : List Int} {i b : Nat} (h : PreMin xs i b) (hi : i < xs.length) (hlt : ¬ xs[i] < xs[b]'h.lt) : PreMin xs (i + 1) b := by
  have hx : xs[i]? = some xs[i] := List.getElem?_eq_getElem hi
  have hxb : xs[b]? = some (xs[b]'h.lt) := List.getElem?_eq_getElem h.lt
  refine ⟨h.lt, fun j y hj hy => ?_, h.fst⟩
  by_cases hji : j = i
  · subst hji
    rw [hx] at hy
    cases hy
    rw [hxb]
    show xs[b]'h.lt ≤ xs[j]
    omega
  · exact h.le j y (by omega) hy
end Vm
namespace Vm
open PySem L2 PySem.Spec PyProof.Rows
/-! ### an empty dict -/
def cNewK : CE := fun s => .ok (.new (.k [])) s
@[simp] theorem cNewK_s {s : S} : cNewK s = .ok (.new (.k [])) s := Eq.trans rfl rfl
end Vm
namespace Vm
open PySem L2 PySem.Spec PyProof.Rows
/-! ### a < b < c, run -/
def kCh3 (g : Od → Od → Option Rv) (y z : Rv) (s3 : S) : R Rv := opt (y.od s3.m) fun p => opt (z.od s3.m) fun p' => opt (g p p') fun rv' => .ok rv' s3
def kChB (g : Od → Od → Option Rv) (c : CE) (y : Rv) (o : Option Rv) (s2 : S) : R Rv := opt o fun rv => match rv with
  | .d (.bool true) => (cv c s2).bind (kCh3 g y)
  | .d (.bool false) => .ok (.d (.bool false)) s2
  | _ => .bad
def kCh2 (f g : Od → Od → Option Rv) (c : CE) (x y : Rv) (s2 : S) : R Rv := opt (x.od s2.m) fun o => opt (y.od s2.m) fun o' => kChB g c y (f o o') s2
def kCh1 (f g : Od → Od → Option Rv) (b c : CE) (x : Rv) (s1 : S) : R Rv := (cv b s1).bind (kCh2 f g c x)
@[simp] theorem kCh3_s {g : Od → Od → Option Rv} {y z : D} {s : S} : kCh3 g (.d y) (.d z) s = rvK (g (.d y) (.d z)) s := by
  unfold kCh3
  rw [od_d, opt_some, od_d, opt_some]
  cases g (.d y) (.d z) <;> rfl
@[simp] theorem kChB_s {g : Od → Od → Option Rv} {c : CE} {y : Rv} {b : Bool} {s : S} : kChB g c y (some (.d (.bool b))) s = if b = true then (cv c s).bind (kCh3 g y) else .ok (.d (.bool false)) s := by
  cases b <;> rfl
@[simp] theorem kCh2_s {f g : Od → Od → Option Rv} {c : CE} {x y : D} {s : S} : kCh2 f g c (.d x) (.d y) s = kChB g c (.d y) (f (.d x) (.d y)) s := Eq.trans rfl rfl
@[simp] theorem kCh1_s {f g : Od → Od → Option Rv} {b c : CE} {x : Rv} {s : S} : kCh1 f g b c x s = (cv b s).bind (kCh2 f g c x) := Eq.trans rfl rfl
@[simp] theorem cChain_s {f g : Od → Od → Option Rv} {a b c : CE} {s : S} : cChain f g a b c s = (cv a s).bind (kCh1 f g b c) := Eq.trans rfl rfl
/-! ### any thing, to be told -/
/-- a thing of so long a repr, so deep: b: without dicts; not b: without lists -/
structure Kd (b : Bool) (n m : Nat) (d : D) : Prop where
  len : d.shown.length ≤ n
  sh : d.showable = true
  dp : d.depth ≤ m
  pl : b = true → d.plain = true
  nl : b = false → noLs d = true
theorem Kd.mono {b : Bool} {d : D} {n m n' m' : Nat} (h : Kd b n m d) (x : n ≤ n') (y : m ≤ m') : Kd b n' m' d := ⟨Nat.le_trans h.len x, h.sh, Nat.le_trans h.dp y, h.pl, h.nl⟩
theorem Kd.ofFits {b : Bool} {n m : Nat} {d : D} (h : Fits d n m) (q : noLs d = true) : Kd b n m d := ⟨h.len, h.sh, h.dp, fun _ => h.pl, fun _ => q⟩
theorem kd_all {b : Bool} {n m : Nat} : ∀ {ds : List D}, (∀ d, d ∈ ds → Kd b n m d) → piled (PyData.shownAll ds) ≤ ds.length * (n + 2) ∧ PyData.showableAll ds = true ∧ PyData.depthAll ds ≤ m ∧ (b = true → PyData.plainAll ds = true) ∧ (b = false → noLsAll ds = true)
  | [], _ => ⟨Nat.zero_le _, rfl, Nat.zero_le _, fun _ => rfl, fun _ => rfl⟩
  | d :: ds, h => by
    obtain ⟨a, c, e, f, g⟩ := kd_all (ds := ds) fun x hx => h x (List.mem_cons_of_mem _ hx)
    have h0 := h d (List.mem_cons_self ..)
    refine ⟨?_, ?_, ?_, fun hb => ?_, fun hb => ?_⟩
    · show piled (d.shown :: PyData.shownAll ds) ≤ _
      rw [piled_cons, List.length_cons, Nat.add_mul]
      have := h0.len
      omega
    · simp only [PyData.showableAll, h0.sh, c, Bool.and_self]
    · show max d.depth (PyData.depthAll ds) ≤ m
      exact Nat.max_le.mpr ⟨h0.dp, e⟩
    · simp only [PyData.plainAll, h0.pl hb, f hb, Bool.and_self]
    · simp only [noLsAll, h0.nl hb, g hb, Bool.and_self]
theorem Kd.tuple {b : Bool} {n m : Nat} {ds : List D} (h : ∀ d, d ∈ ds → Kd b n m d) : Kd b (ds.length * (n + 2) + 2) (m + 1) (.tuple ds) := by
  obtain ⟨a, c, e, f, g⟩ := kd_all h
  refine ⟨?_, by simp only [PyData.showable]; exact c, Nat.succ_le_succ e, fun hb => by rw [PyData.plain]; exact f hb, fun hb => by rw [noLs]; exact g hb⟩
  simp only [PyData.shown]
  have := fmt_text (PyData.shownAll ds)
  omega
theorem Kd.list {n m : Nat} {ds : List D} (h : ∀ d, d ∈ ds → Kd true n m d) : Kd true (ds.length * (n + 2) + 2) (m + 1) (.list ds) := by
  obtain ⟨a, c, e, f, g⟩ := kd_all h
  refine ⟨?_, by simp only [PyData.showable]; exact c, Nat.succ_le_succ e, fun hb => by rw [PyData.plain]; exact f hb, fun hb => nomatch hb⟩
  simp only [PyData.shown]
  have := listText_le (PyData.shownAll ds)
  omega
theorem Kd.int {b : Bool} {k : Nat} {i : Int} (h : Bs k i) (hk : k ≤ 1918) : Kd b (k + 2) 0 (.int i) := .ofFits (.int h hk) rfl
theorem Kd.none {b : Bool} : Kd b 5 0 .none := .ofFits (Fits.none.mono (by decide) (by decide)) rfl
theorem Kd.bool {b c : Bool} : Kd b 5 0 (.bool c) := .ofFits Fits.bool rfl
theorem Kd.rep {b : Bool} {n m : Nat} {d : D} (h : Kd b n m d) (x : n ≤ 16000000) (y : m ≤ 60) : opRepr (.d d) = some (.d (.str d.shown)) := by
  cases b with
  | true =>
    refine opRepr_s ?_
    unfold Vm.okr
    rw [Bool.and_eq_true, Bool.and_eq_true, decide_eq_true_eq]
    exact ⟨⟨okd_iff.mpr ⟨h.pl rfl, Nat.le_trans h.dp y⟩, h.sh⟩, Nat.le_trans h.len x⟩
  | false =>
    refine opRepr_n ?_
    unfold Vm.okrN
    rw [Bool.and_eq_true, Bool.and_eq_true, Bool.and_eq_true, decide_eq_true_eq, decide_eq_true_eq]
    exact ⟨⟨⟨h.nl rfl, Nat.le_trans h.dp y⟩, h.sh⟩, Nat.le_trans h.len x⟩
/-! ### looks at any thing -/
def isInt : D → Bool
  | .int _ => true
  | _ => false
theorem whole_d {d : D} {m : List Cell} : fWhole [.d d] m = .ok (.d (.bool (isInt d))) (m.take m.length) := by
  cases d <;> rfl
theorem opAll_b {α : Type} {p : α → Bool} {xs : List α} : opAll (.d (.list (xs.map fun x => PyData.bool (p x)))) = some (.d (.bool (xs.all p))) := by
  have h : ∀ xs : List α, bools? (xs.map fun x => PyData.bool (p x)) = some (xs.map p) := by
    intro xs
    induction xs with
    | nil => rfl
    | cons x xs ih =>
      show (match bools? (xs.map fun x => PyData.bool (p x)) with | some l => some (p x :: l) | none => none) = _
      rw [ih]
      rfl
  unfold opAll
  dsimp only
  rw [h xs]
  dsimp only
  rw [List.all_map]
  rfl
theorem isi_t {d : D} : isiB "tuple" (tyN (.d d)) = match d with | .tuple _ => true | _ => false := by cases d <;> rfl
end Vm
namespace Vm
open PySem L2
/-! ### what a statement leaves, wished for -/
structure Po where
  nx : S → Prop
  rt : Rv → S → Prop
  ex : String → S → Prop
  ct : S → Prop
  bk : S → Prop
def Po.of (P : Po) : Out → Prop
  | .nx s => P.nx s
  | .rt a s => P.rt a s
  | .ex e s => P.ex e s
  | .ct s => P.ct s
  | .bk s => P.bk s
  | .bad => False
@[irreducible] def Wp (c : CS) (P : Po) (s : S) : Prop := P.of (c s)
/-- equal; simp does not take it apart -/
def Is {α : Type} (x y : α) : Prop := x = y
theorem Is.rfl {α : Type} {x : α} : Is x x := Eq.refl x
theorem Is.eq {α : Type} {x y : α} (h : Is x y) : x = y := h
/-- a call's result -/
def Ok (r : RF) (Q : Rv → List Cell → Prop) : Prop := ∃ a m, r = .ok a m ∧ Q a m
def poF (m : List Cell) (Q : Rv → List Cell → Prop) : Po where
  nx := fun s => Q (.d .none) (s.m.take m.length)
  rt := fun a s => Ok (fin m (.rt a s)) Q
  ex := fun _ _ => False
  ct := fun _ => False
  bk := fun _ => False
section
variable {a b c : CS} {P : Po} {s s1 : S} {t : CT}
theorem w_of {o : Out} (h : c s = o) (q : P.of o) : Wp c P s := by
  unfold Wp at *
  rw [h]
  exact q
theorem st (h : Is (a s) (.nx s1)) (q : Wp b P s1) : Wp (cSeq a b) P s := by
  unfold Wp at *
  rw [cSeq_s, h.eq]
  exact q
theorem st_last (h : Is (a s) (.nx s1)) (q : P.nx s1) : Wp a P s := w_of h q
theorem w_ret {e : CE} {x : Rv} (h : Is (e s) (.ok x s1)) (q : P.rt x s1) : Wp (cRet e) P s := by
  unfold Wp at *
  rw [cRet_s, h.eq]
  exact q
theorem w_seq (h : Wp a { P with nx := fun s1 => Wp b P s1 } s) : Wp (cSeq a b) P s := by
  unfold Wp at *
  rw [cSeq_s]
  cases e : a s <;> rw [e] at h <;> exact h
theorem w_mono {P' : Po} (h : Wp a P s) (h1 : ∀ s, P.nx s → P'.nx s) (h2 : ∀ x s, P.rt x s → P'.rt x s) (h3 : ∀ x s, P.ex x s → P'.ex x s) (h4 : ∀ s, P.ct s → P'.ct s) (h5 : ∀ s, P.bk s → P'.bk s) : Wp a P' s := by
  unfold Wp at *
  cases e : a s <;> rw [e] at h
  · exact h1 _ h
  · exact h2 _ _ h
  · exact h5 _ h
  · exact h4 _ h
  · exact h3 _ _ h
  · exact h
/-- behind a, N holds -/
theorem w_cut (N : S → Prop) (h : Wp a { P with nx := N } s) (q : ∀ s1, N s1 → Wp b P s1) : Wp (cSeq a b) P s :=
  w_seq (w_mono h q (fun _ _ h => h) (fun _ _ h => h) (fun _ h => h) (fun _ h => h))
theorem w_if {x : Bool} (h : Is (t s) (.ok x s1)) (h1 : x = true → Wp a P s1) (h2 : x = false → Wp b P s1) : Wp (cIfS t a b) P s := by
  unfold Wp at *
  rw [cIfS_s, h.eq, out_ok, kIfS_s]
  cases x with
  | true => exact h1 rfl
  | false => exact h2 rfl
theorem w_ifF (h : Is (t s) (.ok false s1)) (h1 : Wp b P s1) : Wp (cIfS t a b) P s := w_if h (fun z => nomatch z) fun _ => h1
/-- if t: return .. ahead of b -/
theorem w_sif {x : Bool} {d : CS} (h : Is (t s) (.ok x s1)) (h1 : x = true → Wp (cSeq a d) P s1) (h2 : x = false → Wp (cSeq b d) P s1) : Wp (cSeq (cIfS t a b) d) P s := by
  unfold Wp at *
  rw [cSeq_s, cIfS_s, h.eq, out_ok, kIfS_s]
  cases x with
  | true =>
    have := h1 rfl
    rw [cSeq_s] at this
    exact this
  | false =>
    have := h2 rfl
    rw [cSeq_s] at this
    exact this
theorem w_nxS {d : CS} (h : Wp d P s) : Wp (cSeq cNx d) P s := by
  unfold Wp at *
  exact h
theorem w_retS {d : CS} {e : CE} {x : Rv} (h : Is (e s) (.ok x s1)) (q : P.rt x s1) : Wp (cSeq (cRet e) d) P s := by
  refine w_seq ?_
  exact w_ret h q
theorem w_assoc {d : CS} (h : Wp (cSeq a (cSeq b d)) P s) : Wp (cSeq (cSeq a b) d) P s := by
  unfold Wp at *
  rw [cSeq_s, cSeq_s]
  rw [cSeq_s] at h
  cases e : a s <;> rw [e] at h
  · rw [then_nx, ← cSeq_s]
    exact h
  all_goals exact h
theorem w_nx (q : P.nx s) : Wp cNx P s := by
  unfold Wp at *
  exact q
/-- a for loop; I i holds ahead of the turn i -/
theorem w_for {ci : CI} {tg : Tg} {ds : List D} (I : Nat → S → Prop) (h : Is (ci s) (.ok ds s1)) (h0 : I 0 s1)
    (hb : ∀ i d s, ds[i]? = some d → I i s → ∃ s2, tg d s = some s2 ∧ Wp a { nx := I (i + 1), rt := P.rt, ex := P.ex, ct := I (i + 1), bk := P.nx } s2)
    (h1 : ∀ s, I ds.length s → P.nx s) : Wp (cFor ci tg a) P s := by
  unfold Wp at *
  rw [cFor_s, h.eq, out_ok]
  have go : ∀ (l : List D) (k : Nat) (s : S), (∀ i d, l[i]? = some d → ds[k + i]? = some d) → k + l.length = ds.length → I k s → P.of (forL tg a l s) := by
    intro l
    induction l with
    | nil =>
      intro k s _ hl hi
      rw [forL_nil]
      have : k = ds.length := by simpa using hl
      exact h1 s (this ▸ hi)
    | cons d l ih =>
      intro k s hd hl hi
      obtain ⟨s2, e1, w⟩ := hb k d s (hd 0 d rfl) hi
      rw [forL_cons e1]
      have next : ∀ s3, I (k + 1) s3 → P.of (forL tg a l s3) := fun s3 h3 => ih (k + 1) s3 (fun i d q => by rw [show k + 1 + i = k + (i + 1) by omega]; exact hd (i + 1) d q) (by rw [List.length_cons] at hl; omega) h3
      cases e : a s2 <;> rw [e] at w
      · exact next _ w
      · exact w
      · exact w
      · exact next _ w
      · exact w
      · exact w
  exact go ds 0 s1 (fun i d q => by rw [Nat.zero_add]; exact q) (by omega) h0
/-- a while loop: the variant falls -/
theorem w_while {fu : S → Nat} (I : Nat → S → Prop) (k : Nat) (hk : k < fu s) (h0 : I k s)
    (hb : ∀ k s, I k s → ∃ x s2, t s = .ok x s2 ∧ (x = false → P.nx s2) ∧ (x = true → Wp a { nx := fun s3 => ∃ j, j < k ∧ I j s3, rt := P.rt, ex := P.ex, ct := fun s3 => ∃ j, j < k ∧ I j s3, bk := P.nx } s2)) : Wp (cWh fu t a) P s := by
  unfold cWh
  unfold Wp at *
  have go : ∀ (n k : Nat) (s : S), k < n → I k s → P.of (whL t a n s) := by
    intro n
    induction n with
    | zero => intro k s h _; omega
    | succ n ih =>
      intro k s hn hi
      rw [whL_s]
      obtain ⟨x, s2, e, h1, h2⟩ := hb k s hi
      rw [e, out_ok]
      cases x with
      | false => exact h1 rfl
      | true =>
        rw [if_pos rfl]
        have w := h2 rfl
        cases e : a s2 <;> rw [e] at w
        · obtain ⟨j, hj, h3⟩ := w
          exact ih j _ (by omega) h3
        · exact w
        · exact w
        · obtain ⟨j, hj, h3⟩ := w
          exact ih j _ (by omega) h3
        · exact w
        · exact w
  exact go (fu s) k s hk h0
end
/-! calls -/
theorem run_ok {n : Nat} {c : CS} {as : List Sl} {m : List Cell} {Q : Rv → List Cell → Prop} (h : Wp c (poF m Q) ⟨as ++ List.replicate (n - as.length) .u, m⟩) : Ok (runF n c as m) Q := by
  unfold Wp at h
  rw [runF_s]
  generalize c _ = o at h
  cases o with
  | nx s => exact ⟨_, _, rfl, h⟩
  | rt a s => exact h
  | bk s => exact h.elim
  | ct s => exact h.elim
  | ex e s => exact h.elim
  | bad => exact h.elim
theorem run_eq {n : Nat} {c : CS} {as : List Sl} {m m' : List Cell} {a : Rv} (h : Wp c (poF m fun x m1 => x = a ∧ m1 = m') ⟨as ++ List.replicate (n - as.length) .u, m⟩) : runF n c as m = .ok a m' := by
  obtain ⟨_, _, e, rfl, rfl⟩ := run_ok h
  exact e
theorem ok_d {m : List Cell} {x : D} {s : S} {Q : Rv → List Cell → Prop} (h : Q (.d x) (s.m.take m.length)) : Ok (fin m (.rt (.d x) s)) Q := ⟨_, _, fin_d, h⟩
theorem Ok.eq {r : RF} {a : Rv} {m : List Cell} (h : Ok r fun x m1 => x = a ∧ m1 = m) : r = .ok a m := by
  obtain ⟨_, _, e, rfl, rfl⟩ := h
  exact e
theorem Ok.imp {r : RF} {Q Q' : Rv → List Cell → Prop} (h : Ok r Q) (q : ∀ a m, Q a m → Q' a m) : Ok r Q' := by
  obtain ⟨a, m, e, h⟩ := h
  exact ⟨a, m, e, q a m h⟩
/-! ### comprehensions over told lists -/
theorem lc_for {α : Type} {own : List Nat} {ci : CI} {tg : Tg} {el : CE} {s s1 : S} {xs : List α} {F : α → D} (G : α → D) (h : ci s = .ok (xs.map F) s1) (hl : xs.length ≤ 16000000)
    (hb : ∀ x, x ∈ xs → ∃ t, tg (F x) ⟨wipeV s1.v own, s1.m⟩ = some t ∧ ∃ v3, cv el t = .ok (.d (G x)) ⟨v3, s1.m⟩) : cLc own ci tg ctYes el s = .ok (.new (.l (xs.map G))) s1 := by
  have go : ∀ (l : List α) (acc : List D), (∀ x, x ∈ l → x ∈ xs) → lcL own s1.v tg ctYes el (l.map F) acc s1.m = .ok (.new (.l (acc ++ l.map G))) s1 := by
    intro l
    induction l with
    | nil =>
      intro acc _
      show R.ok (Rv.new (.l acc)) _ = _
      rw [List.map_nil, List.append_nil]
    | cons x l ih =>
      intro acc hx
      obtain ⟨t, h1, v3, h2⟩ := hb x (hx x (List.mem_cons_self ..))
      rw [List.map_cons]
      unfold lcL
      rw [h1]
      dsimp only
      show ((cv el t).nx.bind _) = _
      rw [h2]
      show lcL own s1.v tg ctYes el (l.map F) (acc ++ [G x]) s1.m = _
      rw [ih (acc ++ [G x]) fun y hy => hx y (List.mem_cons_of_mem _ hy), List.append_assoc]
      rfl
  unfold cLc
  rw [h, bind_ok, if_pos (by rw [List.length_map]; exact hl), go xs [] fun x hx => hx]
  rfl
/-- a comprehension whose turns draw: from the told state on, J of what was drawn -/
theorem lc_draws {own : List Nat} {ci : CI} {tg : Tg} {el : CE} {s s1 : S} {ds : List D} (I : Nat → List Cell → Prop) (J : D → Prop) (h : ci s = .ok ds s1) (hl : ds.length ≤ 16000000) (h0 : I 0 s1.m)
    (hb : ∀ i m d, ds[i]? = some d → I i m → ∃ t, tg d ⟨wipeV s1.v own, m⟩ = some t ∧ ∃ x v3 m3, cv el t = .ok (.d x) ⟨v3, m3⟩ ∧ J x ∧ I (i + 1) m3) :
    ∃ acc m', cLc own ci tg ctYes el s = .ok (.new (.l acc)) ⟨s1.v, m'⟩ ∧ acc.length = ds.length ∧ (∀ x, x ∈ acc → J x) ∧ I ds.length m' := by
  obtain ⟨acc, m', e, ⟨h1, h2⟩, h3⟩ := lc_inv (tt := ctYes) (fun i acc m => (acc.length = i ∧ ∀ x, x ∈ acc → J x) ∧ I i m) h hl ⟨⟨rfl, fun x hx => nomatch hx⟩, h0⟩ fun i acc m d hd hi => by
    obtain ⟨⟨h1, h2⟩, h3⟩ := hi
    obtain ⟨t, e1, x, v3, m3, e2, hx, h4⟩ := hb i m d hd h3
    refine ⟨t, e1, true, t, rfl, (fun z => nomatch z), fun _ => ⟨x, _, e2, ⟨by rw [List.length_append, h1]; rfl, fun y hy => ?_⟩, h4⟩⟩
    rcases List.mem_append.mp hy with hy | hy
    · exact h2 y hy
    · rw [List.mem_singleton.mp hy]
      exact hx
  exact ⟨acc, m', e, h1, h2, h3⟩
theorem ints_of {ds : List D} (P : Int → Prop) (h : ∀ x, x ∈ ds → ∃ i, x = .int i ∧ P i) : ∃ ns : List Int, ds = ns.map PyData.int ∧ ∀ i, i ∈ ns → P i := by
  induction ds with
  | nil => exact ⟨[], rfl, fun i h => nomatch h⟩
  | cons d ds ih =>
    obtain ⟨i, rfl, hi⟩ := h d (List.mem_cons_self ..)
    obtain ⟨ns, rfl, hn⟩ := ih fun x hx => h x (List.mem_cons_of_mem _ hx)
    refine ⟨i :: ns, rfl, fun j hj => ?_⟩
    rcases List.mem_cons.mp hj with rfl | hj
    · exact hi
    · exact hn j hj
/-! ### operations with bounds that omega sees -/
theorem opMul_b {i j : Int} (h1 : -1000000000000000000000000000000000000000 ≤ i) (h2 : i ≤ 1000000000000000000000000000000000000000) (h3 : -1000000000000000000000000000000000000000 ≤ j) (h4 : j ≤ 1000000000000000000000000000000000000000) : opMulV (.d (.int i)) (.d (.int j)) = some (.d (.int (i * j))) :=
  opMul_i (mulOk_small (by omega) (by omega))
theorem getD_map {α β : Type} {xs : List α} {F : α → β} {i : Nat} {a : α} {b : β} (h : i < xs.length) : (xs.map F).getD i b = F (xs.getD i a) := by
  rw [List.getD_eq_getElem?_getD, List.getD_eq_getElem?_getD, List.getElem?_map, List.getElem?_eq_getElem h]
  rfl
theorem opIx_lb {ds : List D} {i : Int} (h : 0 ≤ i) (h2 : i < ds.length) : opIx (.d (.list ds)) (.d (.int i)) = some (.d (ds.getD i.toNat .none)) := by
  refine opIx_l (atI_nat h ?_)
  rw [List.getD_eq_getElem?_getD, List.getElem?_eq_getElem (by omega)]
  rfl
theorem opIx_tb {ds : List D} {i : Int} (h : 0 ≤ i) (h2 : i < ds.length) : opIx (.d (.tuple ds)) (.d (.int i)) = some (.d (ds.getD i.toNat .none)) := by
  refine opIx_t (atI_nat h ?_)
  rw [List.getD_eq_getElem?_getD, List.getElem?_eq_getElem (by omega)]
  rfl
theorem opIx_li {ns : List Int} {i : Int} (h : 0 ≤ i) (h2 : i < ns.length) : opIx (.d (.list (ns.map PyData.int))) (.d (.int i)) = some (.d (.int (ns.getD i.toNat 0))) := by
  rw [opIx_lb h (by rw [List.length_map]; exact h2), getD_map (a := 0) (by omega)]
theorem opIx_ti {ns : List Int} {i : Int} (h : 0 ≤ i) (h2 : i < ns.length) : opIx (.d (.tuple (ns.map PyData.int))) (.d (.int i)) = some (.d (.int (ns.getD i.toNat 0))) := by
  rw [opIx_tb h (by rw [List.length_map]; exact h2), getD_map (a := 0) (by omega)]
/-! draws -/
end Vm
namespace Vm
open PySem L2 PySem.Spec PyProof.Rows
/-! ### str(x) -/
def strD : D → Option Str
  | .int i => if okr (.int i) = true then some (PyData.int i).shown else none
  | .str z => some z
  | .list ds => if okr (.list ds) = true then some (PyData.list ds).shown else none
  | .tuple ds => if okr (.tuple ds) = true then some (PyData.tuple ds).shown else none
  | _ => none
def opStr : Od → Option Rv
  | .d d => (strD d).map fun z => .d (.str z)
  | _ => none
def rStrV (K : Fg) : V → Hp → VK → Prop := fun x H Q => ∃ d z, Rp K H x d ∧ strD d = some z ∧ Q (.str z) H
theorem call_strV {X : Cx} {k : Nat} (hr : Rg k X.A) : CallR X (.type "str") (fun xs H Q => ∃ x, xs = [x] ∧ rStrV X.K x H Q) := by
  intro pins s σ H xs us Q I r h
  obtain ⟨x, rfl, d, z, hd, hz, q⟩ := h
  obtain ⟨u, rfl, rx⟩ := vals1 r
  have hu := hr.units
  have seqs : ∀ a d', u = .ref a → okr d' = true → Rp X.K H x d' → z = d'.shown → wpAny (model X.prog X.w) X.A (call (.type "str") [u]) (EP X pins σ Q) X.xe s := fun a d' e ok hd' ez => by
    obtain ⟨pd, dp, sh, sz⟩ := okr_iff ok
    obtain ⟨as, r1⟩ := Rp.reads I d' x u pd hd' rx
    subst e
    subst ez
    exact str_of_reads r1 sh (PyData.noDict_hsm (plain_noDict.1 d' pd)) hr.g (by omega) (fun _ _ e => e) (fun h' t tk hk => ⟨.str d'.shown, H, I.kept hk, ⟨t, rfl⟩, q⟩) sz
  unfold strD at hz
  split at hz
  · split at hz
    · rename_i i ok
      cases hz
      cases hd
      obtain ⟨t, rfl⟩ := rx
      obtain ⟨pd, dp, sh, sz⟩ := okr_iff ok
      exact PySem.P.str_of_int (by simpa [PyData.showable] using sh) ⟨.str _, H, I.tok _, ⟨_, rfl⟩, q⟩
    · cases hz
  · cases hz
    cases hd
    obtain ⟨t, rfl⟩ := rx
    exact PySem.P.str_of_str ⟨.str _, H, I, ⟨_, rfl⟩, q⟩
  · split at hz
    · rename_i ds ok
      cases hz
      cases hd with
      | lst hs ra =>
        cases rx
        exact seqs _ (.list ds) rfl ok (.lst hs ra) rfl
    · cases hz
  · split at hz
    · rename_i ds ok
      cases hz
      cases hd with
      | tup hs ra =>
        cases rx
        exact seqs _ (.tuple ds) rfl ok (.tup hs ra) rfl
    · cases hz
  · cases hz
theorem s_str {K : Fg} : Op1S K (fun v H Q => ∃ x, [v] = [x] ∧ rStrV K x H Q) opStr := by
  intro w x o rv Q hx h e q
  unfold opStr at e
  split at e
  · rename_i d
    cases hz : strD d with
    | none => rw [hz] at e; cases e
    | some z =>
      rw [hz] at e
      cases e
      exact ⟨x, rfl, d, z, h.rp hx, hz, post_str q⟩
  · cases e
/-! ### bool(x) -/
def opBool : Od → Option Rv
  | .d (.int i) => some (.d (.bool (i != 0)))
  | .d (.bool b) => some (.d (.bool b))
  | _ => none
/-! ### shifts, masks -/
/-! ### dict(pairs) -/
/-! ### enumerate -/
end Vm
namespace Vm
open PySem L2 PySem.Spec PyProof.Rows
def enumD (k : Nat) : List D → List D
  | [] => []
  | d :: ds => .tuple [.int (k : Nat), d] :: enumD (k + 1) ds
def zipD : List D → List D → List D
  | d :: ds, e :: es => .tuple [d, e] :: zipD ds es
  | _, _ => []
def ciEnum (c : CE) : CI := fun s => (cv c s).bind fun a s1 => match a with
  | .d (.list ds) => .ok (enumD 0 ds) s1
  | .d (.tuple ds) => .ok (enumD 0 ds) s1
  | _ => .bad
def ciZip (c c' : CE) : CI := fun s => (cv c s).bind fun a s1 => (cv c' s1).bind fun b s2 => match a, b with
  | .d (.list ds), .d (.list es) => .ok (zipD ds es) s2
  | .d (.tuple ds), .d (.tuple es) => .ok (zipD ds es) s2
  | _, _ => .bad
def enumR : Rv → S → R (List D)
  | .d (.list ds), s1 => .ok (enumD 0 ds) s1
  | .d (.tuple ds), s1 => .ok (enumD 0 ds) s1
  | _, _ => .bad
@[simp] theorem enumR_l {ds : List D} {s : S} : enumR (.d (.list ds)) s = .ok (enumD 0 ds) s := Eq.trans rfl rfl
@[simp] theorem enumR_t {ds : List D} {s : S} : enumR (.d (.tuple ds)) s = .ok (enumD 0 ds) s := Eq.trans rfl rfl
@[simp] theorem ciEnum_s {c : CE} {s : S} : ciEnum c s = (cv c s).bind enumR := by
  unfold ciEnum
  congr 1
  funext a s1
  rcases a with (_ | _ | _ | _ | _ | _ | _) | _ | _ <;> rfl
def zipR (a b : Rv) (s2 : S) : R (List D) := match a, b with
  | .d (.list ds), .d (.list es) => .ok (zipD ds es) s2
  | .d (.tuple ds), .d (.tuple es) => .ok (zipD ds es) s2
  | _, _ => .bad
@[simp] theorem zipR_l {ds es : List D} {s : S} : zipR (.d (.list ds)) (.d (.list es)) s = .ok (zipD ds es) s := Eq.trans rfl rfl
@[simp] theorem zipR_t {ds es : List D} {s : S} : zipR (.d (.tuple ds)) (.d (.tuple es)) s = .ok (zipD ds es) s := Eq.trans rfl rfl
def kZip (c' : CE) (a : Rv) (s1 : S) : R (List D) := (cv c' s1).bind (zipR a)
@[simp] theorem kZip_s {c' : CE} {a : Rv} {s : S} : kZip c' a s = (cv c' s).bind (zipR a) := Eq.trans rfl rfl
@[simp] theorem ciZip_s {c c' : CE} {s : S} : ciZip c c' s = (cv c s).bind (kZip c') := Eq.trans rfl rfl
@[simp] theorem opBool_i {i : Int} : opBool (.d (.int i)) = some (.d (.bool (i != 0))) := Eq.trans rfl rfl
@[simp] theorem opBool_b {b : Bool} : opBool (.d (.bool b)) = some (.d (.bool b)) := Eq.trans rfl rfl
@[simp] theorem opInt_b1 {b : Bool} : opInt (.d (.bool b)) = some (.d (.int (if b then 1 else 0))) := rfl
end Vm
namespace Vm
open PySem L2 PySem.Spec PyProof.Rows
@[simp] theorem wipeV_nil {v : List Sl} : wipeV v [] = v := rfl
@[simp] theorem wipeV_cons {v : List Sl} {i : Nat} {is : List Nat} : wipeV v (i :: is) = (wipeV v is).set i .u := rfl
theorem rangeI_map : ∀ (n k : Nat), rangeI k n = (List.range n).map fun (i : Nat) => ((k + i : Nat) : Int)
  | 0, k => rfl
  | n + 1, k => by
    show ((k : Int) :: rangeI (k + 1) n) = _
    have e : ((k : Int) + 1) = ((k + 1 : Nat) : Int) := by omega
    rw [e, rangeI_map n (k + 1), List.range_succ_eq_map, List.map_cons, List.map_map]
    congr 1
    apply List.map_congr_left
    intro i _
    show ((k + 1 + i : Nat) : Int) = ((k + (i + 1) : Nat) : Int)
    rw [show k + 1 + i = k + (i + 1) by omega]
/-- range(e): the numbers below -/
theorem ciR1_n {c : CE} {s s1 : S} {n : Nat} (h : c s = .ok (.d (.int (n : Nat))) s1) (hn : n < 1000000000) : ciR1 c s = .ok ((List.range n).map fun i : Nat => PyData.int (i : Int)) s1 := by
  rw [ciR1_s h (by omega) (by omega), Int.toNat_natCast, rangeD_eq]
  have := rangeI_map n 0
  rw [show ((0 : Nat) : Int) = 0 from rfl] at this
  rw [this, List.map_map]
  congr 1
  apply List.map_congr_left
  intro i _
  show PyData.int ((0 + i : Nat) : Int) = _
  rw [Nat.zero_add]
/-! ### what is a load -/
def nonB : D → Bool
  | .int n => decide (0 ≤ n)
  | _ => false
def geD : D → D → Bool
  | .int a, .int b => decide (b ≤ a)
  | _, _ => false
def fallD : List D → Bool
  | a :: b :: r => geD a b && fallD (b :: r)
  | _ => true
def loadB : D → Bool
  | .tuple ds => decide (1 ≤ ds.length ∧ ds.length ≤ 6) && ds.all nonB && fallD ds
  | _ => false
theorem fallD_ints : ∀ ns : List Int, fallD (ns.map PyData.int) = (List.range (ns.length - 1)).all fun i => decide (ns.getD (i + 1) 0 ≤ ns.getD i 0)
  | [] => rfl
  | [n] => rfl
  | a :: b :: r => by
    show (decide (b ≤ a) && fallD ((b :: r).map PyData.int)) = _
    rw [fallD_ints (b :: r)]
    show _ = (List.range (r.length + 1)).all _
    rw [List.range_succ_eq_map, List.all_cons, List.all_map]
    rfl
theorem nonB_ints {ds : List D} (h : ds.all nonB = true) : ∃ ns : List Int, ds = ns.map PyData.int ∧ ∀ n, n ∈ ns → 0 ≤ n :=
  ints_of (fun n => 0 ≤ n) fun x hx => by
    have := List.all_eq_true.mp h x hx
    cases x with
    | int n => exact ⟨n, rfl, by simpa [nonB] using this⟩
    | _ => simp [nonB] at this
def cIsLoad : CS :=
 (cSeq (cIfS (tOr' (tNot' (cTru (cOp1 (opIsi "tuple") (cVar 0)))) (tNot' (cB (cChain opLe opLe (cC (.int 1)) (cOp1 opLen (cVar 0)) (cC (.int 6))))))
 (cRet (cC (.bool false)))
 cNx)
 (cSeq (cIfS (tNot' (cTru (cOp1 opAll (cLc [1] (ciSeq (cVar 0)) (tgN 1) ctYes (cAnd (cCallP fWhole (lCons (cVar 1) lNil)) (cOp2 opGe (cVar 1) (cC (.int 0))))))))
 (cRet (cC (.bool false)))
 cNx)
 (cRet (cOp1 opAll (cLc [2] (ciR1 (cOp2 opSub (cOp1 opLen (cVar 0)) (cC (.int 1)))) (tgN 2) ctYes (cOp2 opGe (cOp2 opIx (cVar 0) (cVar 2)) (cOp2 opIx (cVar 0) (cOp2 opAdd (cVar 2) (cC (.int 1))))))))))
def fIsLoad : Fn := runF 3 cIsLoad
theorem isload_t (ds : List D) : fIsLoad [.d (.tuple ds)] [] = .ok (.d (.bool (loadB (.tuple ds)))) [] := by
  refine run_eq ?_
  by_cases h : 1 ≤ ds.length ∧ ds.length ≤ 6
  · have h1 : (1 : Int) ≤ ds.length := by omega
    have h2 : (ds.length : Int) ≤ 6 := by omega
    refine st (s1 := ⟨[.d (.tuple ds), .u, .u], []⟩) (by simp [isi_t, h1, h2]; exact .rfl) ?_
    have l := lc_for (own := [1]) (ci := ciSeq (cVar 0)) (tg := tgN 1) (el := cAnd (cCallP fWhole (lCons (cVar 1) lNil)) (cOp2 opGe (cVar 1) (cC (.int 0)))) (s := ⟨[.d (.tuple ds), .u, .u], []⟩) (s1 := ⟨[.d (.tuple ds), .u, .u], []⟩) (xs := ds) (F := id) (fun d => .bool (nonB d)) (by simp) (by omega) fun d hd => by
      refine ⟨_, rfl, [.d (.tuple ds), .d d, .u], ?_⟩
      cases d <;> simp [whole_d, isInt, nonB]
    refine w_sif (x := !ds.all nonB) (s1 := ⟨[.d (.tuple ds), .u, .u], []⟩) (by simp [l, opAll_b]; exact .rfl) (fun hx => ?_) fun hx => ?_
    · refine w_retS (by simp; exact .rfl) (ok_d ⟨?_, rfl⟩)
      have : ds.all nonB = false := by simpa using hx
      simp [loadB, this]
    · have hx : ds.all nonB = true := by simpa using hx
      obtain ⟨ns, rfl, hn⟩ := nonB_ints hx
      have hl : ns.length ≤ 6 ∧ 1 ≤ ns.length := by simpa [and_comm] using h
      refine w_nxS ?_
      have r1 := ciR1_n (c := cOp2 opSub (cOp1 opLen (cVar 0)) (cC (.int 1))) (s := ⟨[.d (.tuple (ns.map PyData.int)), .u, .u], []⟩) (s1 := ⟨[.d (.tuple (ns.map PyData.int)), .u, .u], []⟩) (n := ns.length - 1) (by
        have : ((ns.length - 1 : Nat) : Int) = (ns.length : Int) - 1 := by omega
        simp [this]) (by omega)
      have l2 := lc_for (own := [2]) (tg := tgN 2) (el := cOp2 opGe (cOp2 opIx (cVar 0) (cVar 2)) (cOp2 opIx (cVar 0) (cOp2 opAdd (cVar 2) (cC (.int 1))))) (fun i => .bool (decide (ns.getD (i + 1) 0 ≤ ns.getD i 0))) r1 (by rw [List.length_range]; omega) fun i hi => by
        have hi := List.mem_range.mp hi
        refine ⟨_, rfl, [.d (.tuple (ns.map PyData.int)), .u, .d (.int i)], ?_⟩
        have i1 := opIx_ti (ns := ns) (i := i) (by omega) (by omega)
        have i2 := opIx_ti (ns := ns) (i := (i : Int) + 1) (by omega) (by omega)
        rw [Int.toNat_natCast] at i1
        rw [show ((i : Int) + 1).toNat = i + 1 by omega] at i2
        simp [i1, i2]
      refine w_ret (x := .d (.bool (loadB (.tuple (ns.map PyData.int))))) (s1 := ⟨[.d (.tuple (ns.map PyData.int)), .u, .u], []⟩) ?_ (ok_d ⟨rfl, rfl⟩)
      have e : loadB (.tuple (ns.map PyData.int)) = (List.range (ns.length - 1)).all fun i => decide (ns.getD (i + 1) 0 ≤ ns.getD i 0) := by
        show (decide (1 ≤ (ns.map PyData.int).length ∧ (ns.map PyData.int).length ≤ 6) && (ns.map PyData.int).all nonB && fallD (ns.map PyData.int)) = _
        rw [hx, fallD_ints]
        have hd : decide (1 ≤ (ns.map PyData.int).length ∧ (ns.map PyData.int).length ≤ 6) = true := decide_eq_true (by rw [List.length_map]; omega)
        rw [hd]
        rfl
      rw [e]
      simp [l2, opAll_b]
      exact .rfl
  · refine w_sif (x := true) (s1 := ⟨[.d (.tuple ds), .u, .u], []⟩) ?_ (fun _ => ?_) fun hx => nomatch hx
    · by_cases h1 : (1 : Int) ≤ ds.length
      · simp [isi_t, h1, show ¬ ((ds.length : Int) ≤ 6) by omega]
        exact .rfl
      · simp [isi_t, h1]
        exact .rfl
    · refine w_retS (by simp; exact .rfl) (ok_d ⟨?_, rfl⟩)
      simp [loadB, h]
theorem isload_ok (d : D) : fIsLoad [.d d] [] = .ok (.d (.bool (loadB d))) [] := by
  cases d with
  | tuple ds => exact isload_t ds
  | _ => rfl
end Vm
namespace Vm
open PySem L2 PySem.Spec PyProof.Rows
@[simp] theorem opSortedR_s {ns : List Int} : opSortedR (.d (.list (ns.map PyData.int))) = some (.new (.l ((sortD ns).map PyData.int))) := by
  unfold opSortedR
  dsimp only
  rw [ints?_map]
  rfl
theorem perm_sum {as bs : List Int} (h : as.Perm bs) : as.sum = bs.sum := by
  induction h with
  | nil => rfl
  | cons x _ ih => rw [List.sum_cons, List.sum_cons, ih]
  | swap x y l => simp only [List.sum_cons]; omega
  | trans _ _ h1 h2 => exact h1.trans h2
theorem sum_nonneg : ∀ {xs : List Int}, (∀ x, x ∈ xs → 0 ≤ x) → 0 ≤ xs.sum
  | [], _ => Int.le_refl 0
  | x :: xs, h => by
    rw [List.sum_cons]
    have := h x (List.mem_cons_self ..)
    have := sum_nonneg fun y hy => h y (List.mem_cons_of_mem x hy)
    omega
theorem mem_le_sum : ∀ {xs : List Int}, (∀ x, x ∈ xs → 0 ≤ x) → ∀ x, x ∈ xs → x ≤ xs.sum
  | y :: xs, h, x, hx => by
    rw [List.sum_cons]
    have h0 := h y (List.mem_cons_self ..)
    have h1 := sum_nonneg fun z hz => h z (List.mem_cons_of_mem y hz)
    rcases List.mem_cons.mp hx with rfl | hx
    · omega
    · have := mem_le_sum (fun z hz => h z (List.mem_cons_of_mem y hz)) x hx
      omega
theorem sum_le_mul {b : Int} : ∀ {xs : List Int}, (∀ x, x ∈ xs → x ≤ b) → xs.sum ≤ b * xs.length
  | [], _ => by simp
  | x :: xs, h => by
    rw [List.sum_cons, List.length_cons]
    have h1 := h x (List.mem_cons_self ..)
    have h2 := sum_le_mul fun y hy => h y (List.mem_cons_of_mem x hy)
    have : b * ((xs.length + 1 : Nat) : Int) = b * xs.length + b := by
      rw [show ((xs.length + 1 : Nat) : Int) = (xs.length : Int) + 1 by omega, Int.mul_add, Int.mul_one]
    omega
end Vm
namespace Vm
open PySem L2 PySem.Spec PyProof.Rows
/-! ### texts made of plain signs -/
def Asc (z : Str) : Prop := ∀ c ∈ z.cps.toList, c < 16 ^ 8
theorem Kd.str {β : Bool} {z : Str} {n : Nat} (h : Asc z) (hn : z.length ≤ n) : Kd β (10 * n + 2) 0 (.str z) := by
  have e := StrLaws.reprText_len z h
  refine ⟨?_, rfl, Nat.le_refl _, fun _ => rfl, fun _ => rfl⟩
  show (reprText z).length ≤ _
  omega
theorem Kd.dict {n m : Nat} {es : List (D × D)} (h : ∀ p, p ∈ es → Kd false n 0 p.1 ∧ Kd false n m p.2) : Kd false (es.length * (2 * n + 4) + 3) (m + 1) (.dict es) := by
  have go : ∀ es : List (D × D), (∀ p, p ∈ es → Kd false n 0 p.1 ∧ Kd false n m p.2) → ((PyData.shownKv es).map (·.length)).sum ≤ es.length * (2 * n + 2) ∧ (PyData.shownKv es).length = es.length ∧ PyData.showableKv es = true ∧ PyData.depthKv es ≤ m ∧ noLsKv es = true := by
    intro es
    induction es with
    | nil => exact fun _ => ⟨Nat.zero_le _, rfl, rfl, Nat.zero_le _, rfl⟩
    | cons p es ih =>
      intro h
      obtain ⟨k, v⟩ := p
      obtain ⟨a, b, c, d, e⟩ := ih fun q hq => h q (List.mem_cons_of_mem _ hq)
      obtain ⟨h1, h2⟩ := h (k, v) (List.mem_cons_self ..)
      have l1 := h1.len
      have l2 := h2.len
      have dk := h1.dp
      refine ⟨?_, ?_, ?_, ?_, ?_⟩
      · simp only [PyData.shownKv, List.map_cons, List.sum_cons, List.length_cons, Nat.add_mul]
        rw [Str.length_append, Str.length_append]
        have : ((": " : String) : Str).length = 2 := rfl
        have l1 : k.shown.length ≤ n := l1
        have l2 : v.shown.length ≤ n := l2
        omega
      · simp only [PyData.shownKv, List.length_cons, b]
      · simp only [PyData.showableKv, c, h1.sh, h2.sh, Bool.and_self]
      · simp only [PyData.depthKv]
        have d1 : k.depth ≤ 0 := dk
        have d2 : v.depth ≤ m := h2.dp
        omega
      · have q1 : noLs k = true := h1.nl rfl
        have q2 : noLs v = true := h2.nl rfl
        simp only [noLsKv, e, q1, q2, Bool.and_self]
  obtain ⟨a, b, c, d, e⟩ := go es h
  refine ⟨?_, by simp only [PyData.showable]; exact c, Nat.succ_le_succ d, (fun z => nomatch z), fun _ => by rw [noLs]; exact e⟩
  simp only [PyData.shown]
  have := dictText_len_le (PyData.shownKv es)
  have e2 : es.length * (2 * n + 4) = es.length * (2 * n + 2) + 2 * es.length := by
    rw [show 2 * n + 4 = 2 * n + 2 + 2 by omega, Nat.mul_add, Nat.mul_comm es.length 2]
  omega
@[simp] theorem opStr_i {i : Int} (h : okr (.int i) = true) : opStr (.d (.int i)) = some (.d (.str (PyData.int i).shown)) := by
  show (if okr (.int i) = true then some (PyData.int i).shown else none).map _ = _
  rw [if_pos h]
  rfl
theorem Kd.ok {n m : Nat} {d : D} (h : Kd true n m d) (x : n ≤ 16000000) (y : m ≤ 60) : Vm.okr d = true := by
  unfold Vm.okr
  rw [Bool.and_eq_true, Bool.and_eq_true, decide_eq_true_eq]
  exact ⟨⟨okd_iff.mpr ⟨h.pl rfl, Nat.le_trans h.dp y⟩, h.sh⟩, Nat.le_trans h.len x⟩
theorem Kd.okd {n m : Nat} {d : D} (h : Kd true n m d) (y : m ≤ 60) : Vm.okd d = true := okd_iff.mpr ⟨h.pl rfl, Nat.le_trans h.dp y⟩
/-- a tuple of ints -/
theorem Kd.ints {b : Bool} {k : Nat} {ns : List Int} (hk : k ≤ 1918) (h : ∀ i, i ∈ ns → Bs k i) : Kd b (ns.length * (k + 4) + 2) 1 (.tuple (ns.map PyData.int)) := by
  have := Kd.tuple (b := b) (n := k + 2) (m := 0) (ds := ns.map PyData.int) fun d hd => by
    obtain ⟨i, hi, rfl⟩ := List.mem_map.mp hd
    exact Kd.int (h i hi) hk
  rw [List.length_map] at this
  exact this
@[simp] theorem mulNegOne {i : Int} : -1 * i = -i := by omega
end Vm
namespace Vm
open PySem L2 PySem.Spec PyProof.Rows
section
variable {prog : Program} {w : World} {A : Around} {E : Value → Shared → Prop} {s : Shared}
theorem applied_rev {sl : Addr} {vl vu vs : Value} {n : Nat} {Q : Int × Int × Nat → Shared → Prop} (hs : s.heap.IsSliceOf sl vl vu vs) (pl : IsPart vl none) (pu : IsPart vu none) (ps : IsPart vs (some (-1)))
    (h : Q ((n : Int) - 1, -1, n) s) : wpAny (model prog w) A (Builtin.Slice.sliceApplied (.ref sl) (pure (n : Int))) Q E s := by
  obtain ⟨ob, hob, hcb, hdb⟩ := id hs
  unfold Builtin.Slice.sliceApplied Builtin.Slice.sliceFields
  refine wpAny_bind (wpAny_bind (wpAny_field hob hdb (x := vl) rfl (wpAny_bind (wpAny_field hob hdb (x := vu) rfl (wpAny_bind (wpAny_field hob hdb (x := vs) rfl (wpAny_pure ?_)))))))
  refine wpAny_bind (HT.slicePart_ ps ?_)
  show wpAny _ _ (if ((-1 : Int) == 0) = true then _ else _) _ _ s
  rw [if_neg (by decide)]
  refine wpAny_bind (HT.slicePart_ pl (wpAny_bind (HT.slicePart_ pu (wpAny_bind (wpAny_pure ?_)))))
  show wpAny _ _ (match Builtin.Slice.sliceAdjust none none (-1) (n : Int) with | (a, b) => pure (a, (-1 : Int), Builtin.Slice.slicePlaces a b (-1))) _ _ s
  have e1 : Builtin.Slice.sliceAdjust none none (-1) (n : Int) = ((n : Int) - 1, -1) := rfl
  have e2 : Builtin.Slice.slicePlaces ((n : Int) - 1) (-1) (-1) = n := by
    unfold Builtin.Slice.slicePlaces
    have q1 : ¬ ((-1 : Int) > 0) := by decide
    simp only [q1, if_false]
    by_cases hn : (-1 : Int) < (n : Int) - 1
    · simp only [hn, if_true]
      rw [show (- -1 : Int) = 1 by decide, Int.ediv_one]
      omega
    · simp only [hn, if_false]
      omega
  rw [e1]
  show wpAny _ _ (pure ((n : Int) - 1, (-1 : Int), Builtin.Slice.slicePlaces ((n : Int) - 1) (-1) (-1))) _ _ s
  rw [e2]
  exact wpAny_pure h
theorem fm_congr {α β : Type} {f g : α → Option β} : ∀ {l : List α}, (∀ m, m ∈ l → f m = g m) → l.filterMap f = l.filterMap g
  | [], _ => rfl
  | x :: l, h => by
    rw [List.filterMap_cons, List.filterMap_cons, h x (List.mem_cons_self ..), fm_congr fun m hm => h m (List.mem_cons_of_mem _ hm)]
theorem pick_rev (xs : Array Value) : ((List.range xs.size).filterMap fun (m : Nat) => xs[(((xs.size : Nat) : Int) - 1 + (m : Int) * (-1)).toNat]?).toArray = xs.toList.reverse.toArray := by
  have e : (List.range xs.size).filterMap (fun (m : Nat) => xs[(((xs.size : Nat) : Int) - 1 + (m : Int) * (-1)).toNat]?) = ((List.range xs.size).map (fun k => xs.size - 1 - k)).filterMap (xs[·]?) := by
    rw [List.filterMap_map]
    refine fm_congr fun m hm => ?_
    have hm := List.mem_range.mp hm
    show xs[_]? = xs[xs.size - 1 - m]?
    congr 1
    omega
  rw [e, PySem.W.krv_range, List.filterMap_reverse, PySem.W.krv_all]
theorem getItem_tuple_rev {t sl : Addr} {items : Array Value} {vl vu vs : Value} {Q : Value → Shared → Prop} (ht : IsTup s.heap t items) (hs : s.heap.IsSliceOf sl vl vu vs) (pl : IsPart vl none) (pu : IsPart vu none) (ps : IsPart vs (some (-1)))
    (h : Q (.ref s.heap.objs.size) { s with heap := s.heap.push { cls := .type "tuple", data := .seq items.toList.reverse.toArray } }) (hsz : items.size ≤ sizeLine) : wpAny (model prog w) A (getItem (.ref t) (.ref sl)) Q E s := by
  have hz : sizeOk (.seq items.toList.reverse.toArray) := by
    show items.toList.reverse.toArray.size ≤ sizeLine
    rw [List.size_toArray, List.length_reverse, Array.length_toList]
    exact hsz
  obtain ⟨ob, hob, hcb, hdb⟩ := id hs
  have ty : s.TypeIs (.ref sl) "slice" := ⟨ob, hob, hcb⟩
  unfold getItem
  try with_reducible refine wpAny_holding ?_
  first | refine wpAny_bind (wpAny_pure ?_) | skip
  refine wpAny_bind (wpAny_sequenceKey ht.typeIs (by decide) ?_)
  refine wpAny_bind (wpAny_callSpecial?_slot (name := Str.ofString "__getitem__") ht.typeIs PyProof.Rows.slot_tuple_getitem (wpAny_call_entry PyProof.Rows.slot_tuple_getitem ht.typeIs entry_tuple_getitem ?_ (args_tuple_getitem _ _)))
  show wpAny _ _ (Builtin.Tuple.tupleItemsOf (.ref t) >>= _) _ _ s
  refine wpAny_bind (tupleItemsOf_ ht ?_)
  refine wpAny_bind (wpAny_typeOf ty ?_)
  rw [if_pos (by decide)]
  refine wpAny_bind (applied_rev hs pl pu ps ?_)
  have no : ¬ ((((items.size : Nat) : Int) - 1 == 0 && (-1 : Int) == 1 && items.size == items.size) = true) := by
    intro q
    rw [Bool.and_eq_true, Bool.and_eq_true] at q
    exact absurd q.1.2 (by decide)
  show wpAny _ _ (if (((items.size : Nat) : Int) - 1 == 0 && (-1 : Int) == 1 && items.size == items.size) = true then _ else _) _ _ s
  rw [if_neg no, pick_rev]
  first
    | exact wpAny_bind (m := Builtin.Tuple.tupleExact _) (wpAny_newObj_type (wpAny_pure ⟨_, rfl, wpAny_pure h⟩) hz)
    | exact wpAny_bind (m := Builtin.Tuple.tupleExact _) (wpAny_newObj_type (wpAny_bind (wpAny_pure (wpAny_pure ⟨_, rfl, wpAny_pure h⟩))) hz)
    | exact wpAny_bind (wpAny_bind (m := Builtin.Tuple.tupleExact _) (wpAny_newObj_type (wpAny_pure (wpAny_pure ⟨_, rfl, wpAny_pure h⟩)) hz))
    | exact wpAny_bind (wpAny_bind (m := Builtin.Tuple.tupleExact _) (wpAny_newObj_type (wpAny_pure ⟨_, rfl, wpAny_pure h⟩) hz))
end
def tRevA (K : Fg) (te : TE) : TE := fun σ H Q => te σ H fun x H1 => ∃ a xs, x = .ref a ∧ ((SqL K H1 a xs ∧ ∀ p, H1 p = none → Q (.ref p) (upd H1 p (.lst xs.reverse))) ∨ (SqT K H1 a xs ∧ ∀ p, H1 p = none → Q (.ref p) (upd H1 p (.tup xs.reverse))))
theorem pe_revA {X : Cx} {e : Expr} {te : TE} {k : Nat} {p1 p2 p3 pos : Pos} (he : PE X e te) : PE X (.Subscript e (.Slice none none (some (.UnaryOp .USub (.Constant (.int 1) k p1) p2)) p3) pos) (tRevA X.K te) := by
  refine ⟨fun pins s σ H Q I h => ?_⟩
  refine Subscript_ (thn (he.run pins s σ H _ I h) fun v s1 ⟨x, H1, I1, r1, q1⟩ => ?_)
  obtain ⟨a, xs, ex, q1⟩ := q1
  subst ex
  cases r1
  have hst : PO X (some (.UnaryOp .USub (.Constant (.int 1) k p1) p2)) (tPart (tUn (rU fun i => .int (-i)) (tC (.int 1)))) := po_some (pe_un un_neg pe_int)
  refine wpAny_Slice (thn (po_none.run pins s1 σ H1 (fun o H2 => o = none ∧ H2 = H1) I1 ⟨rfl, rfl⟩) fun vl s2 ⟨l, H2, I2, pl, el, e2⟩ => ?_)
  subst el e2
  refine thn (po_none.run pins s2 σ H2 (fun o H3 => o = none ∧ H3 = H2) I2 ⟨rfl, rfl⟩) fun vu s3 ⟨u, H3, I3, pu, eu, e3⟩ => ?_
  subst eu e3
  refine thn (hst.run pins s3 σ H3 (fun o H4 => o = some (-1) ∧ H4 = H3) I3 ⟨1, rfl, -1, rfl, rfl, rfl⟩) fun vs s4 ⟨o, H4, I4, ps, eo, e4⟩ => ?_
  subst eo e4
  have I5 : Inv X pins σ H4 { s4 with heap := s4.heap.push { cls := .type "slice", data := .fields #[vl, vu, vs] } } := I4.kept (t' := s4.toks) fun b ob q => Heap.get?_push_of_some _ q
  show wpAny (model X.prog X.w) X.A (subscriptTail e (.Slice none none (some (.UnaryOp .USub (.Constant (.int 1) k p1) p2)) p3) (.ref a) (.ref s4.heap.objs.size)) (EP X pins σ Q) X.xe { s4 with heap := s4.heap.push { cls := .type "slice", data := .fields #[vl, vu, vs] } }
  rcases q1 with ⟨hx, q⟩ | ⟨hx, q⟩
  · obtain ⟨its, r, ht, hz⟩ := I5.list hx
    have hl := r.length
    refine tail_any (ops := [.ref a, .ref s4.heap.objs.size]) ht.isList.typeIs (PySem.slot_list_getitem.lookup) ?_ (by with_unfolding_all rfl)
    refine wpAny_getItem_list_slice ht.isList (Heap.IsSliceOf.new _ vl vu vs) pl pu ps (by decide) ?_ (by rw [List.size_toArray]; omega)
    rw [PySem.W.krv_pick]
    refine ⟨.ref _, _, I5.laid (t' := s4.toks) (o := .lst xs.reverse) (fun b ob q => Heap.get?_push_of_some _ q) (Nat.le_refl _) ?_, rfl, q _ (I5.hok.fresh (Nat.le_refl _))⟩
    exact ⟨by rw [List.length_reverse]; exact hz, _, 0, r.reverse, Heap.get?_push_size _ rfl⟩
  · obtain ⟨its, r, ht, hz⟩ := I5.tuple hx
    have hl := r.length
    refine tail_any (ops := [.ref a, .ref s4.heap.objs.size]) ht.typeIs (PyProof.Rows.slot_tuple_getitem.lookup) ?_ (by with_unfolding_all rfl)
    refine getItem_tuple_rev ht (Heap.IsSliceOf.new _ vl vu vs) pl pu ps ?_ (by rw [List.size_toArray]; omega)
    refine ⟨.ref _, _, I5.laid (t' := s4.toks) (o := .tup xs.reverse) (fun b ob q => Heap.get?_push_of_some _ q) (Nat.le_refl _) ?_, rfl, q _ (I5.hok.fresh (Nat.le_refl _))⟩
    exact ⟨by rw [List.length_reverse]; exact hz, its.reverse, r.reverse, ⟨_, Heap.get?_push_size _ rfl, rfl, _, rfl⟩⟩
def opRevA : Od → Option Rv
  | .d (.list ds) => some (.new (.l ds.reverse))
  | .d (.tuple ds) => some (.d (.tuple ds.reverse))
  | _ => none
section
variable {X : Cx} {ec : EC} {W : WX}
theorem e_revA {e : Expr} {c : CE} {k : Nat} {p1 p2 p3 pos : Pos} (he : Ex X ec W e c) : Ex X ec W (.Subscript e (.Slice none none (some (.UnaryOp .USub (.Constant (.int 1) k p1) p2)) p3) pos) (cOp1 opRevA c) :=
  (pe_revA he).imp fun _ _ _ h => op1 (K := X.K) (r := fun x H Q => ∃ a xs, x = .ref a ∧ ((SqL X.K H a xs ∧ ∀ p, H p = none → Q (.ref p) (upd H p (.lst xs.reverse))) ∨ (SqT X.K H a xs ∧ ∀ p, H p = none → Q (.ref p) (upd H p (.tup xs.reverse))))) (fun w x o rv Q hx h e q => by
    unfold opRevA at e
    split at e
    · cases e
      obtain ⟨p, vs, rfl, hs, ra⟩ := h.list hx
      exact ⟨p, vs, rfl, .inl ⟨hs, fun p' hp => post_lst q ra.reverse hp hx⟩⟩
    · cases e
      obtain ⟨p, vs, rfl, hs, ra⟩ := h.tup
      exact ⟨p, vs, rfl, .inr ⟨SqT.of (hx _ _ hs), fun p' hp => post_tup q ra.reverse hp hx⟩⟩
    · cases e) h
end
@[simp] theorem opRevA_l {ds : List D} : opRevA (.d (.list ds)) = some (.new (.l ds.reverse)) := Eq.trans rfl rfl
@[simp] theorem opRevA_t {ds : List D} : opRevA (.d (.tuple ds)) = some (.d (.tuple ds.reverse)) := Eq.trans rfl rfl
theorem ok_p {p p' : Cell} {r : List Cell} {x : D} {v : List Sl} {Q : Rv → List Cell → Prop} (h : Q (.d x) (p' :: r)) : Ok (fin (p :: r) (.rt (.d x) ⟨v, p' :: r⟩)) Q := ok_d (by simpa using h)
theorem ok_0 {x : D} {v : List Sl} {Q : Rv → List Cell → Prop} {m : List Cell} (h : Q (.d x) []) : Ok (fin [] (.rt (.d x) ⟨v, m⟩)) Q := ok_d h
theorem w_rD {P : Po} {s : S} {e : CE} {x : D} (m1 : List Cell) (h : ∃ v, Is (e s) (.ok (.d x) ⟨v, m1⟩)) (q : ∀ v, P.rt (.d x) ⟨v, m1⟩) : Wp (cRet e) P s := by
  obtain ⟨v, h⟩ := h
  exact w_ret h (q v)
end Vm
namespace Vm
open PySem PySem.Spec PyProof.Rows L2
/-! ### isinstance of an exception that was kept -/
/-- the classes of the program's exceptions -/
def isSub (m n : String) : Bool := m == n || n == "BallError" || n == "ValueError"
/-- what isinstance says of the known exceptions and the class x -/
structure IsF (K : Fg) (mg : Str → Option Value) (ec : EC) (x : Str) (n : String) : Prop where
  ex : ∃ v c, ClsV v c ∧ (mg x = some c ∨ (mg x = none ∧ bootBuiltins x = some c ∧ x ≠ "__name__")) ∧ ∀ m, m ∈ ec.X → PySem.W.kitOne K (.ref (ec.f m)) c = some (isSub m n)
section
variable {X : Cx} {ec : EC} {W : WX}
/-! ### try: .., except x as n: y = n -/
structure CatF (K : Fg) (mg : Str → Option Value) (ec : EC) (x : Str) (L : List String) : Prop where
  ex : ∃ c, (mg x = some c ∨ (mg x = none ∧ bootBuiltins x = some c ∧ x ≠ "__name__")) ∧ ∀ m, m ∈ L → m ∈ ec.X ∧ PySem.W.exmOne K (.ref (ec.f m)) c = some true
end
end Vm
namespace Vm
open PySem L2 PySem.Spec PyProof.Rows
section
variable {X : Cx} {ec : EC} {W : WX}
/-! ### xs[i] += e, ints -/
def rGetL (K : Fg) : V → V → Hp → VK → Prop := fun o i H Q => ∃ p xs k x, o = .ref p ∧ i = .int k ∧ 0 ≤ k ∧ k < 4611686018427387904 ∧ SqL K H p xs ∧ xs[k.toNat]? = some x ∧ Q x H
theorem get_list : PGet X (rGetL X.K) := by
  intro pins s σ H o i ov iv Q I ro ri h
  obtain ⟨p, xs, k, x, rfl, rfl, h0, hk, hp, hx, q⟩ := h
  cases ro
  obtain ⟨t, rfl⟩ := ri
  obtain ⟨its, r, pl, hz⟩ := I.list hp
  obtain ⟨w, ew, rw'⟩ := r.get hx
  exact wpAny_getItem_list pl.isList h0 (by omega) (by simpa using ew) ⟨x, H, I, rw', q⟩
def cAugL (co ci ce : CE) : CS := fun s => (cv co s).out fun o s1 => (cv ci s1).out fun i s2 => match o, i with
  | .ref n, .d (.int k) => match s2.m[n]? with
    | some (.l xs) => if 0 ≤ k ∧ k < 4611686018427387904 then match xs[k.toNat]? with
      | some (.int a) => (cv ce s2).out fun v s3 => match v with
        | .d (.int b) => match s3.m[n]? with
          | some (.l ys) => match ixN ys.length k with
            | some j => .nx ⟨s3.v, s3.m.set n (.l (ys.set j (.int (a + b))))⟩
            | none => .bad
          | _ => .bad
        | _ => .bad
      | _ => .bad
      else .bad
    | _ => .bad
  | _, _ => .bad
theorem s_augL {o i e : Expr} {co ci ce : CE} {tpos pos : Pos} (ho : Ex X ec W o co) (hi : Ex X ec W i ci) (he : Ex X ec W e ce)
    (ha : ∀ ov iv new, augStore i ov iv new = (do holding [new, ov, iv] (setItem ov iv new); release [new, ov, iv] []; pure .next) := by intros; rfl) : Sx X ec W (.AugAssign (.Subscript o i tpos) .Add e pos) (cAugL co ci ce) :=
  (ps_augS ho hi get_list he ip_add set_list ha).imp fun De σ H h => by
    obtain ⟨w, s, rfl, hr, h⟩ := h
    refine run_ev hr h fun xo w1 s1 o le1 r1 o1 hn1 h1 => ?_
    refine run_ev r1 (h1.le le1) fun xi w2 s2 i le2 r2 o2 hn2 h2 => ?_
    replace h2 := h2.le le2
    split at h2
    · rename_i n k
      split at h2
      · rename_i xs em
        split at h2
        · rename_i hk
          split at h2
          · rename_i a ea
            obtain ⟨p, rfl, hp⟩ := o1
            have o2 : Rp X.K w2.G xi (.int k) := o2
            cases o2
            have hp2 := le2.cell hp
            obtain ⟨hg, vs, hv, ra⟩ := r2.mem.cell n p _ hp2 em
            obtain ⟨x, hx, rx⟩ := ra.get ea
            cases rx
            refine ⟨p, vs, k, .int a, rfl, rfl, hk.1, hk.2, SqL.of hv, hx, ?_⟩
            refine run_ev r2 h2 fun xv w3 s3 v le3 r3 o3 hn3 h3 => ?_
            replace h3 := h3.le le3
            split at h3
            · rename_i b
              split at h3
              · rename_i ys em3
                split at h3
                · rename_i j ej
                  have o3 : Rp X.K w3.G xv (.int b) := o3
                  cases o3
                  have hp3 := le3.cell hp2
                  obtain ⟨hg3, vs3, hv3, ra3⟩ := r3.mem.cell n p _ hp3 em3
                  refine ⟨a, b, rfl, rfl, ?_⟩
                  obtain ⟨r4, le4⟩ := cell_set (c := .l (ys.set j (.int (a + b)))) (o := .lst (vs3.set j (.int (a + b)))) r3 hp3 hg3 ⟨hg3, _, upd_same, ra3.set (.int (a + b)) j⟩
                  refine ⟨p, vs3, k, j, rfl, rfl, hv3, by rw [ra3.length]; exact ej, ?_⟩
                  exact h3 σ ⟨w3.G, w3.r, w3.F, upd w3.H p (.lst (vs3.set j (.int (a + b))))⟩ le4 r4
                · exact h3.elim
              · exact h3.elim
            · exact h3.elim
          · exact h2.elim
        · exact h2.elim
      · exact h2.elim
    · exact h2.elim
end
end Vm
namespace Vm
open PySem L2 PySem.Spec PyProof.Rows
/-! ### sorted(xs), ints -/
def sortA (ns : List Int) : List Int := (sortD ns).reverse
theorem sortA_perm (ns : List Int) : (sortA ns).Perm ns := (List.reverse_perm _).trans (sortD_perm ns)
theorem sortA_pw (ns : List Int) : (sortA ns).Pairwise (· ≤ ·) := List.pairwise_reverse.mpr (sortD_pw ns)
def opSorted : Od → Option Rv
  | .d (.list ds) => (ints? ds).bind fun ns => some (.new (.l ((sortA ns).map PyData.int)))
  | _ => none
theorem s_sorted {K : Fg} : Op1S K (fun v H Q => rSortedI K [v] H Q) opSorted := by
  intro w x o rv Q hx h e q
  unfold opSorted at e
  split at e
  · obtain ⟨ns, e1, e2⟩ := Option.bind_eq_some_iff.mp e
    cases e2
    rw [ints?_eq e1] at h
    obtain ⟨p, vs, rfl, hs, ra⟩ := h.list hx
    rw [rp_ints ra] at hs
    refine ⟨p, ns, rfl, hs, fun ns' l h1 h2 hl => ?_⟩
    have e3 : ns' = sortA ns := (h1.trans (sortA_perm ns).symm).eq_of_pairwise (fun a b _ _ h1 h2 => Int.le_antisymm h1 h2) h2 (sortA_pw ns)
    rw [e3]
    exact post_lst q (rpAll_ints _) hl hx
  · cases e
end Vm
namespace Vm
open PySem PySem.Spec PyProof.Rows L2
/-! ### a lambda without parameters, handed to a def that asks it -/
def cAsk (ask : List Cell → RF) : CE := fun s => match s.v[0]? with
  | some Sl.f => (ask s.m).toR s.v
  | _ => .bad
end Vm
namespace Vm
open PySem L2
/-! ### what a def that asks tells -/
@[simp] theorem cAsk_s {ask : List Cell → RF} {v : List Sl} {m : List Cell} : cAsk ask ⟨.f :: v, m⟩ = (ask m).toR (.f :: v) := rfl
end Vm
namespace Vm
open PySem L2
/-! ### lists of numbers, sorted -/
theorem sortD_len {as : List Int} : (sortD as).length = as.length := (sortD_perm as).length_eq
theorem sortD_sum {as : List Int} : (sortD as).sum = as.sum := perm_sum (sortD_perm as)
theorem sortD_mem {as : List Int} {x : Int} : x ∈ sortD as ↔ x ∈ as := (sortD_perm as).mem_iff
/-! ### loads changed -/
/-! ### equality of lists of like things -/
end Vm
namespace Vm
open PySem L2
/-! ### the first k together -/
theorem sum_take {xs : List Int} {i : Nat} (h : i < xs.length) : (xs.take (i + 1)).sum = (xs.take i).sum + xs[i] := by
  rw [List.take_add_one, List.getElem?_eq_getElem h, List.sum_append]
  simp
theorem sum_set (a : Int) : ∀ (xs : List Int) (i : Nat) (h : i < xs.length), (xs.set i a).sum = xs.sum - xs[i] + a
  | x :: xs, 0, _ => by
    show (a :: xs).sum = (x :: xs).sum - x + a
    rw [List.sum_cons, List.sum_cons]
    omega
  | x :: xs, i + 1, h => by
    have := sum_set a xs i (by simpa using h)
    show (x :: xs.set i a).sum = (x :: xs).sum - xs[i]'(by simpa using h) + a
    rw [List.sum_cons, List.sum_cons, this]
    omega
theorem ixN {xs : List Int} {i : Nat} (h : i < xs.length) : opIx (.d (.tuple (xs.map PyData.int))) (.d (.int (i : Nat))) = some (.d (.int xs[i])) := by
  have q := opIx_ti (ns := xs) (i := (i : Nat)) (by omega) (by omega)
  rw [Int.toNat_natCast, List.getD_eq_getElem?_getD, List.getElem?_eq_getElem h, Option.getD_some] at q
  exact q
theorem ixL {xs : List Int} {i : Nat} (h : i < xs.length) : opIx (.d (.list (xs.map PyData.int))) (.d (.int (i : Nat))) = some (.d (.int xs[i])) := by
  have q := opIx_li (ns := xs) (i := (i : Nat)) (by omega) (by omega)
  rw [Int.toNat_natCast, List.getD_eq_getElem?_getD, List.getElem?_eq_getElem h, Option.getD_some] at q
  exact q
theorem rangeN_get {n i : Nat} {d : D} (h : ((List.range n).map fun i : Nat => PyData.int (i : Int))[i]? = some d) : i < n ∧ d = .int (i : Nat) := by
  have hi : i < n := by
    have := (List.getElem?_eq_some_iff.mp h).1
    simpa using this
  rw [List.getElem?_map, List.getElem?_range hi] at h
  exact ⟨hi, (Option.some.inj h).symm⟩
/-! ### loads drawn by moves -/
/-- one ball from i to j -/
def mvL (ys : List Int) (i j : Nat) : List Int := (ys.set i (ys.getD i 0 - 1)).set j ((ys.set i (ys.getD i 0 - 1)).getD j 0 + 1)
theorem mvL_len {ys : List Int} {i j : Nat} : (mvL ys i j).length = ys.length := by
  unfold mvL
  rw [List.length_set, List.length_set]
theorem getD_get {xs : List Int} {i : Nat} (h : i < xs.length) : xs.getD i 0 = xs[i] := by rw [List.getD_eq_getElem?_getD, List.getElem?_eq_getElem h, Option.getD_some]
end Vm
namespace Vm
open PySem L2
/-! ### the order of loads, in plain words -/
def Fall (xs : List Int) : Prop := ∀ a b, a < b → b < xs.length → xs.getD b 0 ≤ xs.getD a 0
theorem getD_set {xs : List Int} {i a : Nat} {v : Int} (ha : a < xs.length) : (xs.set i v).getD a 0 = if i = a then v else xs.getD a 0 := by
  rw [getD_get (by rw [List.length_set]; exact ha), List.getElem_set]
  split
  · rfl
  · rw [getD_get ha]
theorem mvL_get {ys : List Int} {i j a : Nat} (hi : i < ys.length) (hj : j < ys.length) (hij : i ≠ j) (ha : a < ys.length) : (mvL ys i j).getD a 0 = ys.getD a 0 - (if a = i then 1 else 0) + (if a = j then 1 else 0) := by
  have ha' : a < (ys.set i (ys.getD i 0 - 1)).length := by rw [List.length_set]; exact ha
  unfold mvL
  rw [getD_set ha', getD_set hj, getD_set ha, if_neg hij]
  by_cases h1 : j = a
  · subst h1
    have h3 : ¬ j = i := fun z => hij z.symm
    simp [hij, h3] <;> omega
  · have h4 : ¬ a = j := fun z => h1 z.symm
    by_cases h2 : i = a
    · subst h2
      simp [h1, hij] <;> omega
    · have h3 : ¬ a = i := fun z => h2 z.symm
      simp [h1, h2, h3, h4] <;> omega
theorem sum_takeD {xs : List Int} {i : Nat} (h : i < xs.length) : (xs.take (i + 1)).sum = (xs.take i).sum + xs.getD i 0 := by
  rw [sum_take h, getD_get h]
/-- ys is no emptier: its first numbers are together no fewer -/
def Maj (xs ys : List Int) : Prop := ∀ k, k ≤ xs.length → (xs.take k).sum ≤ (ys.take k).sum
/-- the next move: to the first box that lacks, from the last one ahead that has more -/
structure Nx (xs ys : List Int) (i j : Nat) : Prop where
  ij : i < j
  jn : j < ys.length
  lack : ys.getD j 0 < xs.getD j 0
  fst : ∀ k, k < j → ¬ ys.getD k 0 < xs.getD k 0
  more : xs.getD i 0 < ys.getD i 0
  lst : ∀ k, i < k → k < j → ¬ xs.getD k 0 < ys.getD k 0
section
variable {xs ys : List Int} {i j : Nat}
theorem Nx.fall (h : Nx xs ys i j) (hl : xs.length = ys.length) (fx : Fall xs) (fy : Fall ys) : Fall (mvL ys i j) := fun a b hab hb => by
  rw [mvL_len] at hb
  have hj := h.jn
  have hij := h.ij
  rw [mvL_get (by omega) hj (by omega) hb, mvL_get (by omega) hj (by omega) (by omega)]
  have e1 := fy a b hab hb
  have e2 := h.lack
  have e3 := h.more
  have e4 := fx i j hij (by omega)
  have e5 : i < b → b < j → ys.getD b 0 ≤ xs.getD b 0 := fun p q => by have := h.lst b p q; omega
  have e6 : i < b → xs.getD b 0 ≤ xs.getD i 0 := fun p => fx i b p (by omega)
  have e7 : j < b → ys.getD b 0 ≤ ys.getD j 0 := fun p => fy j b p hb
  have e8 : a < j → ¬ ys.getD a 0 < xs.getD a 0 := fun p => h.fst a p
  have e9 : a < j → xs.getD j 0 ≤ xs.getD a 0 := fun p => fx a j p (by omega)
  by_cases a1 : a = i
  · subst a1
    rw [if_pos rfl, if_neg (by omega : ¬ a = j), if_neg (by omega : ¬ b = a)]
    by_cases b1 : b = j
    · subst b1
      rw [if_pos rfl]
      omega
    · rw [if_neg b1]
      by_cases b2 : b < j
      · have := e5 hab b2
        have := e6 hab
        omega
      · have := e7 (by omega)
        omega
  · rw [if_neg a1]
    by_cases b1 : b = j
    · subst b1
      have := e8 hab
      have := e9 hab
      rw [if_neg (by omega : ¬ b = i), if_pos rfl, if_neg (by omega : ¬ a = b)]
      omega
    · rw [if_neg b1]
      split <;> split <;> omega
end
/-- a list of moves leads from ys on to xs -/
def Leads : List (Nat × Nat) → List Int → List Int → Prop
  | [], ys, xs => ys = xs
  | q :: qs, ys, xs => q.1 < ys.length ∧ q.2 < ys.length ∧ ys.getD q.2 0 + 2 ≤ ys.getD q.1 0 ∧ Leads qs (sortD (mvL ys q.1 q.2)) xs
end Vm
namespace Vm
open PySem L2
def prN (q : Nat × Nat) : D := .tuple [.int (q.1 : Int), .int (q.2 : Int)]
@[simp] theorem prN_0 {q : Nat × Nat} : opIx (.d (prN q)) (.d (.int 0)) = some (.d (.int (q.1 : Int))) := rfl
@[simp] theorem prN_1 {q : Nat × Nat} : opIx (.d (prN q)) (.d (.int 1)) = some (.d (.int (q.2 : Int))) := rfl
/-! ### the next move -/
end Vm
namespace Vm
open PySem L2
def cIsShare : CS :=
 (cSeq (cIfS (tOr' (tNot' (cTru (cOp1 (opIsi "tuple") (cVar 0)))) (tOr' (cB (cOp2 opNe (cOp1 opLen (cVar 0)) (cC (.int 2)))) (tNot' (cTru (cOp1 opAll (cLc [1] (ciSeq (cVar 0)) (tgN 1) ctYes (cCallP fWhole (lCons (cVar 1) lNil))))))))
 (cRet (cC (.bool false)))
 cNx)
 (cRet (cAnd (cOp2 opGt (cOp2 opIx (cVar 0) (cC (.int 1))) (cC (.int 0))) (cOp2 opEq (cCallP fMeasure (lCons (cOp1 opAbs (cOp2 opIx (cVar 0) (cC (.int 0)))) (lCons (cOp2 opIx (cVar 0) (cC (.int 1))) lNil))) (cC (.int 1))))))
def fIsShare : Fn := runF 2 cIsShare
/-! ### what is a share -/
def shareB : D → Bool
  | .tuple [.int p, .int q] => decide (0 < q ∧ Int.gcd p q = 1)
  | _ => false
theorem len_two {α : Type} {ds : List α} (h : ds.length = 2) : ∃ x y, ds = [x, y] := by
  match ds, h with
  | [x, y], _ => exact ⟨x, y, rfl⟩
theorem meas_big {p q : Int} (h0 : 0 < q) (hq : q.natAbs < 2 ^ 3900) : fMeasure [.d (.int (if p < 0 then -p else p)), .d (.int q)] [] = .ok (.d (.int (Int.gcd p q : Nat))) [] := by
  have e := measure_ok (a := p.natAbs) (b := q.natAbs) (k := 3900) hq (by decide)
  rw [abs_nat]
  rw [show ((q.natAbs : Nat) : Int) = q by omega] at e
  exact e
theorem shareB_ne {x y : D} (h : (isInt x && isInt y) = false) : shareB (.tuple [x, y]) = false := by
  cases x <;> first | rfl | skip
  cases y <;> first | rfl | simp [isInt] at h
theorem two_ints {x y : D} (h : (isInt x && isInt y) = true) : ∃ p q, x = .int p ∧ y = .int q := by
  cases x with
  | int p =>
    cases y with
    | int q => exact ⟨p, q, rfl, rfl⟩
    | _ => simp [isInt] at h
  | _ => simp [isInt] at h
theorem shareB_len {ds : List D} (h : ¬ ds.length = 2) : shareB (.tuple ds) = false := by
  unfold shareB
  split
  · rename_i e
    cases e
    exact absurd rfl h
  · rfl
theorem isShare_big {d : D} (hq : ∀ p q, d = .tuple [.int p, .int q] → q.natAbs < 2 ^ 3900) : fIsShare [.d d] [] = .ok (.d (.bool (shareB d))) [] := by
  cases d with
  | tuple ds =>
    unfold fIsShare
    refine run_eq ?_
    unfold cIsShare
    by_cases h2 : ds.length = 2
    · obtain ⟨x, y, rfl⟩ := len_two h2
      have l := lc_for (own := [1]) (ci := ciSeq (cVar 0)) (tg := tgN 1) (el := cCallP fWhole (lCons (cVar 1) lNil)) (s := ⟨[.d (.tuple [x, y]), .u], []⟩) (s1 := ⟨[.d (.tuple [x, y]), .u], []⟩) (xs := [x, y]) (F := id) (fun d => PyData.bool (isInt d)) (by simp) (by simp) fun y hy => ⟨_, rfl, _, by simp [whole_d] <;> rfl⟩
      have al : opAll (.d (.list [.bool (isInt x), .bool (isInt y)])) = some (.d (.bool (isInt x && isInt y))) := by cases isInt x <;> cases isInt y <;> rfl
      cases hx : (isInt x && isInt y) with
      | false =>
        rw [hx] at al
        rw [shareB_ne hx]
        refine w_sif (x := true) (s1 := ⟨[.d (.tuple [x, y]), .u], []⟩) (by simp at l; simp [isi_t, l, al]; exact .rfl) (fun _ => ?_) fun z => nomatch z
        exact w_retS (x := .d (.bool false)) (s1 := ⟨[.d (.tuple [x, y]), .u], []⟩) (by simp; exact .rfl) (ok_0 ⟨rfl, rfl⟩)
      | true =>
        rw [hx] at al
        obtain ⟨p, q, rfl, rfl⟩ := two_ints hx
        refine st (s1 := ⟨[.d (.tuple [.int p, .int q]), .u], []⟩) (by simp at l; simp [isi_t, l, al]; exact .rfl) ?_
        have i0 : opIx (.d (.tuple [PyData.int p, .int q])) (.d (.int 0)) = some (.d (.int p)) := rfl
        have i1 : opIx (.d (.tuple [PyData.int p, .int q])) (.d (.int 1)) = some (.d (.int q)) := rfl
        have gq : ((Int.gcd p q : Nat) : Int) = 1 ↔ Int.gcd p q = 1 := by omega
        by_cases h0 : 0 < q
        · have e := meas_big (p := p) h0 (hq p q rfl)
          refine w_rD (x := .bool (shareB (.tuple [.int p, .int q]))) [] ⟨_, by simp [i0, i1, h0, e, shareB, gq]; exact .rfl⟩ fun _ => ok_0 ⟨rfl, rfl⟩
        · exact w_rD (x := .bool (shareB (.tuple [.int p, .int q]))) [] ⟨_, by simp [i0, i1, h0, shareB]; exact .rfl⟩ fun _ => ok_0 ⟨rfl, rfl⟩
    · have h3 : ¬ ((ds.length : Int) = 2) := by omega
      rw [shareB_len h2]
      refine w_sif (x := true) (s1 := ⟨[.d (.tuple ds), .u], []⟩) (by simp [isi_t, h2, h3]; exact .rfl) (fun _ => ?_) fun z => nomatch z
      exact w_retS (x := .d (.bool false)) (s1 := ⟨[.d (.tuple ds), .u], []⟩) (by simp; exact .rfl) (ok_0 ⟨rfl, rfl⟩)
  | _ => rfl
theorem isShare_any {d : D} (hq : ∀ p q, d = .tuple [.int p, .int q] → q.natAbs < 2 ^ 200) : fIsShare [.d d] [] = .ok (.d (.bool (shareB d))) [] := isShare_big fun p q e => Nat.lt_of_lt_of_le (hq p q e) (Nat.pow_le_pow_right (by decide) (by decide))
/-! ### things -/
theorem k1 {β : Bool} {d : D} {n m : Nat} (h : Kd β n m d) : Kd β (n + 4) (m + 1) (.tuple [d]) := (Kd.tuple (n := n) (m := m) fun d' hd => by
  rw [List.mem_singleton.mp hd]
  exact h).mono (by simp) (Nat.le_refl _)
/-! ### lowest terms, from 0 on -/
def cLawLowest : CS :=
 (cSeq (cSet 2 (cCallP fMeasure (lCons (cVar 0) (lCons (cVar 1) lNil))))
 (cRet (cTup (cCons (cOp2 opDiv (cVar 0) (cVar 2)) (cCons (cOp2 opDiv (cVar 1) (cVar 2)) cNil)))))
def fLawLowest : Fn := runF 3 cLawLowest
theorem lowest_eq {t u : Int} (h : 0 ≤ t) : fLawLowest [.d (.int t), .d (.int u)] [] = fReduced [.d (.int t), .d (.int u)] [] := by
  have h1 : ¬ t < 0 := by omega
  unfold fLawLowest fReduced
  rw [runF_s, runF_s]
  simp [cLawLowest, cReduced, h1]
theorem lowest_ok {top bot : Int} {j k : Nat} (h0 : 0 ≤ top) (hb : 1 ≤ bot) (ht : Bs j top) (hk : Bs k bot) (hk2 : k ≤ 8900) :
    ∃ p q, fLawLowest [.d (.int top), .d (.int bot)] [] = .ok (.d (shD p q)) [] ∧ Sh (max j k) p q ∧ p * bot = top * q := by
  rw [lowest_eq h0]
  exact reduced_ok hb ht hk hk2
/-! ### what is a rule -/
def posB : D → Bool
  | .tuple [.int p, .int q] => decide (0 < q ∧ Int.gcd p q = 1) && decide (0 ≤ p)
  | _ => false
def ratD : D → Rat
  | .tuple [.int p, .int q] => (p : Rat) / q
  | _ => 0
def ruleB : D → Bool
  | .tuple ds => decide (1 ≤ ds.length ∧ ds.length ≤ 12) && (ds.all posB && decide ((ds.map ratD).sum = 1))
  | _ => false
def Sz (d : D) : Prop := ∀ p q, d = .tuple [.int p, .int q] → Bs 200 p ∧ Bs 200 q
theorem posB_ex {d : D} (h : posB d = true) : ∃ p q, d = .tuple [.int p, .int q] ∧ 0 < q ∧ Int.gcd p q = 1 ∧ 0 ≤ p := by
  unfold posB at h
  split at h
  · rename_i p q
    rw [Bool.and_eq_true] at h
    have h1 := of_decide_eq_true h.1
    exact ⟨p, q, rfl, h1.1, h1.2, of_decide_eq_true h.2⟩
  · cases h
theorem shareB_ex {d : D} (h : shareB d = true) : ∃ p q, d = .tuple [.int p, .int q] ∧ 0 < q ∧ Int.gcd p q = 1 := by
  unfold shareB at h
  split at h
  · rename_i p q
    have h1 := of_decide_eq_true h
    exact ⟨p, q, rfl, h1.1, h1.2⟩
  · cases h
theorem posB_no {d : D} (h : shareB d = false) : posB d = false := by
  cases e : posB d with
  | false => rfl
  | true =>
    obtain ⟨p, q, rfl, h1, h2, h3⟩ := posB_ex e
    have : shareB (.tuple [.int p, .int q]) = true := decide_eq_true ⟨h1, h2⟩
    rw [this] at h
    cases h
theorem posB_tell {d : D} (h : posB d = true) (hs : Sz d) : Tell 200 d (ratD d) := by
  obtain ⟨p, q, rfl, h1, h2, h3⟩ := posB_ex h
  obtain ⟨b1, b2⟩ := hs p q rfl
  refine ⟨p, q, rfl, ⟨by omega, h2, b1, b2⟩, ?_⟩
  have : (q : Rat) ≠ 0 := rat_ne (by omega)
  show (p : Rat) = (p : Rat) / q * q
  grind
def cIsRule : CS :=
 (cSeq (cIfS (tOr' (tNot' (cTru (cOp1 (opIsi "tuple") (cVar 0)))) (tNot' (cB (cChain opLe opLe (cC (.int 1)) (cOp1 opLen (cVar 0)) (cC (.int 12))))))
 (cRet (cC (.bool false)))
 cNx)
 (cSeq (cIfS (tNot' (cTru (cOp1 opAll (cLc [1] (ciSeq (cVar 0)) (tgN 1) ctYes (cAnd (cCallP fIsShare (lCons (cVar 1) lNil)) (cOp2 opGe (cOp2 opIx (cVar 1) (cC (.int 0))) (cC (.int 0))))))))
 (cRet (cC (.bool false)))
 cNx)
 (cRet (cOp2 opEq (cCallP fTotal (lCons (cOp1 opList (cVar 0)) lNil)) (cTup (cCons (cC (.int 1)) (cCons (cC (.int 1)) cNil)))))))
def fIsRule : Fn := runF 2 cIsRule
theorem tell_one {k : Nat} {d : D} {x : Rat} (h : Tell k d x) : opEq (.d d) (.d (.tuple [.int 1, .int 1])) = some (.d (.bool (decide (x = 1)))) := by
  obtain ⟨p, q, rfl, s, r⟩ := h.ex
  have e := opEq_intsT (as := [p, q]) (bs := [1, 1])
  have e2 : opEq (.d (shD p q)) (.d (.tuple [.int 1, .int 1])) = some (.d (.bool (decide ([p, q] = [1, 1])))) := e
  rw [e2]
  congr 4
  apply propext
  have hq := rat_ne s.pos
  constructor
  · intro z
    simp only [List.cons.injEq, and_true] at z
    obtain ⟨rfl, rfl⟩ := z
    have h1 : ((1 : Int) : Rat) = 1 := rfl
    rw [h1] at r
    grind
  · rintro rfl
    have : p = q := by
      rw [← Rat.intCast_inj, r]
      grind
    subst this
    have c := s.cop
    rw [Int.gcd_self] at c
    have := s.pos
    have : p = 1 := by omega
    rw [this]
theorem isRule_any {d : D} (h : ∀ ds, d = .tuple ds → ∀ e, e ∈ ds → Sz e) : fIsRule [.d d] [] = .ok (.d (.bool (ruleB d))) [] := by
  cases d with
  | tuple ds =>
    have hz := h ds rfl
    unfold fIsRule
    refine run_eq ?_
    unfold cIsRule
    by_cases hl : 1 ≤ ds.length ∧ ds.length ≤ 12
    · have h1 : (1 : Int) ≤ ds.length := by omega
      have h2 : (ds.length : Int) ≤ 12 := by omega
      have rb : ruleB (.tuple ds) = (ds.all posB && decide ((ds.map ratD).sum = 1)) := by
        show (decide (1 ≤ ds.length ∧ ds.length ≤ 12) && _) = _
        rw [decide_eq_true hl, Bool.true_and]
      refine st (s1 := ⟨[.d (.tuple ds), .u], []⟩) (by simp [isi_t, h1, h2]; exact .rfl) ?_
      have l := lc_for (own := [1]) (ci := ciSeq (cVar 0)) (tg := tgN 1) (el := cAnd (cCallP fIsShare (lCons (cVar 1) lNil)) (cOp2 opGe (cOp2 opIx (cVar 1) (cC (.int 0))) (cC (.int 0)))) (s := ⟨[.d (.tuple ds), .u], []⟩) (s1 := ⟨[.d (.tuple ds), .u], []⟩) (xs := ds) (F := id) (fun d => .bool (posB d)) (by simp) (by omega) fun d hd => by
        refine ⟨_, rfl, [.d (.tuple ds), .d d], ?_⟩
        have e := isShare_any (d := d) fun p q z => (hz d hd p q z).2
        cases hs : shareB d with
        | false =>
          rw [hs] at e
          rw [posB_no hs]
          simp [e]
        | true =>
          rw [hs] at e
          obtain ⟨p, q, rfl, g1, g2⟩ := shareB_ex hs
          have i0 : opIx (.d (.tuple [PyData.int p, .int q])) (.d (.int 0)) = some (.d (.int p)) := rfl
          have pb : posB (.tuple [.int p, .int q]) = decide (0 ≤ p) := by
            show (decide (0 < q ∧ Int.gcd p q = 1) && decide (0 ≤ p)) = _
            rw [decide_eq_true ⟨g1, g2⟩, Bool.true_and]
          rw [pb]
          simp [e, i0]
      refine w_sif (x := !ds.all posB) (s1 := ⟨[.d (.tuple ds), .u], []⟩) (by simp [l, opAll_b]; exact .rfl) (fun hx => ?_) fun hx => w_nxS ?_
      · have : ds.all posB = false := by simpa using hx
        rw [rb, this, Bool.false_and]
        exact w_retS (x := .d (.bool false)) (s1 := ⟨[.d (.tuple ds), .u], []⟩) (by simp; exact .rfl) (ok_0 ⟨rfl, rfl⟩)
      · have hx : ds.all posB = true := by simpa using hx
        rw [rb, hx, Bool.true_and]
        have hx2 := List.all_eq_true.mp hx
        obtain ⟨t, et, ht⟩ := total_t (k := 200) ds (ds.map ratD) (by rw [List.length_map]) (fun i d x q1 q2 => by
          rw [List.getElem?_map, q1] at q2
          cases q2
          exact posB_tell (hx2 d (List.mem_of_getElem? q1)) (hz d (List.mem_of_getElem? q1))) (by omega)
        have e1 := tell_one ht
        exact w_rD (x := .bool (decide ((ds.map ratD).sum = 1))) [] ⟨_, by simp [et, e1]; exact .rfl⟩ fun _ => ok_0 ⟨rfl, rfl⟩
    · have rb : ruleB (.tuple ds) = false := by
        show (decide (1 ≤ ds.length ∧ ds.length ≤ 12) && _) = _
        rw [decide_eq_false hl, Bool.false_and]
      rw [rb]
      refine w_sif (x := true) (s1 := ⟨[.d (.tuple ds), .u], []⟩) ?_ (fun _ => ?_) fun z => nomatch z
      · by_cases h1 : (1 : Int) ≤ ds.length
        · have h2 : ¬ (ds.length : Int) ≤ 12 := by omega
          simp [isi_t, h1, h2]
          exact .rfl
        · simp [isi_t, h1]
          exact .rfl
      · exact w_retS (x := .d (.bool false)) (s1 := ⟨[.d (.tuple ds), .u], []⟩) (by simp; exact .rfl) (ok_0 ⟨rfl, rfl⟩)
  | _ => rfl
end Vm
namespace Vm
open PySem L2
/-! ### the rules' module -/
def cPower : CS :=
 (cSeq (cSet 2 (cC (.int 1)))
 (cSeq (cFor (ciR1 (cVar 1)) (tgN 3)
 (cSet 2 (cOp2 opMulV (cVar 2) (cVar 0))))
 (cRet (cVar 2))))
def fPower : Fn := runF 4 cPower
/-! ### weights and rules drawn -/
/-- a told rule: so many shares, none below 0, of so many bits -/
def IsRl (k n : Nat) (ds : List D) : Prop := ds.length = n ∧ ∀ d, d ∈ ds → ∃ p q, d = .tuple [.int p, .int q] ∧ Sh k p q ∧ 0 ≤ p
theorem IsRl.mono {j k n : Nat} {ds : List D} (h : IsRl j n ds) (q : j ≤ k) : IsRl k n ds := ⟨h.1, fun d hd => by
  obtain ⟨p, q', e, s, z⟩ := h.2 d hd
  exact ⟨p, q', e, s.mono q, z⟩⟩
/-! ### mixtures -/
theorem IsRl.tell {k n : Nat} {ds : List D} (h : IsRl k n ds) {d : D} (hd : d ∈ ds) : Tell k d (ratD d) ∧ 0 ≤ ratD d := by
  obtain ⟨p, q, rfl, s, p0⟩ := h.2 d hd
  have hq := rat_ne s.pos
  refine ⟨⟨p, q, rfl, s, ?_⟩, ?_⟩
  · show (p : Rat) = (p : Rat) / q * q
    grind
  · show (0 : Rat) ≤ (p : Rat) / q
    have h1 : (0 : Rat) ≤ p := Rat.intCast_nonneg.mpr p0
    have h2 := rat_pos s.pos
    refine Rat.not_lt.mp fun z => ?_
    have h3 := (Rat.mul_lt_mul_right h2).mpr z
    have h4 : (p : Rat) / q * q = p := by grind
    rw [h4, Rat.zero_mul] at h3
    exact absurd h1 (Rat.not_le.mpr h3)
/-! ### the word of an exception -/
end Vm
namespace Vm
open PySem L2
/-! ### the third pen: a list -/
def penL (cells : List Int) (at' left : Int) : Cell := .l [.list (cells.map PyData.int), .int at', .int left]
structure IsPenL (B : Nat) (p : Cell) : Prop where
  ex : ∃ cells at' left, p = penL cells at' left ∧ cells.length ≤ 63 ∧ 0 ≤ at' ∧ at' ≤ B ∧ 0 ≤ left
theorem IsPenL.mono {B C : Nat} {p : Cell} (h : IsPenL B p) (hb : B ≤ C) : IsPenL C p := by
  obtain ⟨a, b, c, h1, h2, h3, h4, h5⟩ := h.ex
  exact ⟨a, b, c, h1, h2, h3, by omega, h5⟩
def fPenL : Fn := runF 1 (cRet (cLst (cCons (cOp1 opList (cSl (cVar 0) (cPt none) (cPt (some (cC (.int 63)))))) (cCons (cC (.int 0)) (cCons (cC (.int 0)) cNil)))))
theorem penL_new {ns : List Int} (h : ns.length ≤ 63) : fPenL [.d (.list (ns.map PyData.int))] [] = .ok (.new (penL ns 0 0)) [] := by
  unfold fPenL
  rw [runF_s]
  have e : cutD (ns.map PyData.int) none (some 63) = ns.map PyData.int := by
    rw [cutD_to (by decide)]
    exact List.take_of_length_le (by rw [List.length_map]; exact h)
  simp [e, penL]
theorem penL_is {ns : List Int} (h : ns.length ≤ 63) : IsPenL 0 (penL ns 0 0) := ⟨ns, 0, 0, rfl, h, by decide, by decide, by decide⟩
@[simp] theorem setMR_penL {i : Nat} {a : List Int} {b c : Int} {s1 : S} : setMR i (.new (penL a b c)) s1 = .nx ⟨s1.v.set i (.c s1.m.length), s1.m ++ [penL a b c]⟩ := Eq.trans rfl rfl
@[simp] theorem pure_penL {a : List Int} {b c : Int} {m : List Cell} {s : S} : (RF.ok (.new (penL a b c)) m).pure s = .ok (.new (penL a b c)) s := Eq.trans rfl rfl
def cRestC : CS :=
 (cSeq (cIfS (tAnd' (cB (cOp2 opLt (cVar 3) (cOp1 opLen (cOp2 opIx (cVar 0) (cC (.int 0)))))) (cB (cOp2 opGe (cOp1 opAbs (cVar 4)) (cOp2 opPow (cC (.int 10)) (cC (.int 18))))))
 (cSeq (cPutL (cVar 0) (cC (.int 2)) (cOp2 opDiv (cOp1 opAbs (cVar 4)) (cVar 1)))
 (cRet (cOp2 opMod (cOp1 opAbs (cVar 4)) (cVar 1))))
 cNx)
 (cSeq (cSet 5 (cOp2 opMod (cOp2 opMulV (cOp2 opAdd (cOp2 opAdd (cOp2 opMod (cVar 4) (cC (.int 2147483587))) (cOp2 opMulV (cC (.int 50021)) (cVar 3))) (cC (.int 23))) (cC (.int 48271))) (cC (.int 2147483629))))
 (cSeq (cSet 5 (cOp2 opMod (cOp2 opAdd (cOp2 opAdd (cOp2 opMulV (cOp2 opMulV (cVar 5) (cVar 5)) (cVar 5)) (cOp2 opMulV (cC (.int 69621)) (cVar 5))) (cVar 3)) (cC (.int 2147483563))))
 (cRet (cOp2 opMod (cOp2 opDiv (cOp2 opMod (cOp2 opMulV (cVar 5) (cOp2 opAdd (cOp2 opMod (cVar 5) (cC (.int 40009))) (cC (.int 7)))) (cC (.int 2147483549))) (cC (.int 64))) (cVar 1))))))
def cDrawC : CS :=
 (cSeq (cIfS (cB (cOp2 opGt (cOp2 opIx (cVar 0) (cC (.int 2))) (cC (.int 0))))
 (cSeq (cSet 2 (cOp2 opMod (cOp2 opIx (cVar 0) (cC (.int 2))) (cVar 1)))
 (cSeq (cPutL (cVar 0) (cC (.int 2)) (cOp2 opDiv (cOp2 opIx (cVar 0) (cC (.int 2))) (cVar 1)))
 (cRet (cVar 2))))
 cNx)
 (cSeq (cSet 3 (cOp2 opIx (cVar 0) (cC (.int 1))))
 (cSeq (cPutL (cVar 0) (cC (.int 1)) (cOp2 opAdd (cVar 3) (cC (.int 1))))
 (cSeq (cSet 4 (cOp2 opAdd (cOp2 opMulV (cC (.int 30011)) (cVar 3)) (cC (.int 13))))
 (cSeq (cIfS (cB (cOp2 opGt (cOp1 opLen (cOp2 opIx (cVar 0) (cC (.int 0)))) (cC (.int 0))))
 (cSet 4 (cOp2 opIx (cOp2 opIx (cVar 0) (cC (.int 0))) (cOp2 opMod (cVar 3) (cOp1 opLen (cOp2 opIx (cVar 0) (cC (.int 0)))))))
 cNx)
 cRestC)))))
def fDrawC : Fn := runF 6 cDrawC
section
variable {cells : List Int} {at' left v : Int}
theorem gL0 : opIx (.d (.list [.list (cells.map PyData.int), .int at', .int left])) (.d (.int 0)) = some (.d (.list (cells.map PyData.int))) := rfl
theorem gL1 : opIx (.d (.list [.list (cells.map PyData.int), .int at', .int left])) (.d (.int 1)) = some (.d (.int at')) := rfl
theorem gL2 : opIx (.d (.list [.list (cells.map PyData.int), .int at', .int left])) (.d (.int 2)) = some (.d (.int left)) := rfl
theorem pL1 {w : List Sl} {r : List Cell} : putLR (.d (.int 1)) (.ref 0) (.d (.int v)) ⟨w, .l [.list (cells.map PyData.int), .int at', .int left] :: r⟩ = .nx ⟨w, .l [.list (cells.map PyData.int), .int v, .int left] :: r⟩ := putLR_s (n := 0) (k := 1) (v := .int v) (s3 := ⟨w, .l [.list (cells.map PyData.int), .int at', .int left] :: r⟩) (xs := [.list (cells.map PyData.int), .int at', .int left]) rfl (by decide) (by simp)
theorem pL2 {w : List Sl} {r : List Cell} : putLR (.d (.int 2)) (.ref 0) (.d (.int v)) ⟨w, .l [.list (cells.map PyData.int), .int at', .int left] :: r⟩ = .nx ⟨w, .l [.list (cells.map PyData.int), .int at', .int v] :: r⟩ := putLR_s (n := 0) (k := 2) (v := .int v) (s3 := ⟨w, .l [.list (cells.map PyData.int), .int at', .int left] :: r⟩) (xs := [.list (cells.map PyData.int), .int at', .int left]) rfl (by decide) (by simp)
end
theorem restC {cells : List Int} {at' c many : Int} {r : List Cell} {B : Nat} (h63 : cells.length ≤ 63) (ha0 : 0 ≤ at') (haB : at' ≤ B) (hB : B < 1000000) (hm : 0 < many) (hm2 : many.natAbs.log2 < 9000) :
    ∃ v p' v', cRestC ⟨[.c 0, .d (.int many), .u, .d (.int at'), .d (.int c), .u], penL cells (at' + 1) 0 :: r⟩ = .rt (.d (.int v)) ⟨v', p' :: r⟩ ∧ 0 ≤ v ∧ v < many ∧ IsPenL (B + 1) p' := by
  have hp : opPow (.d (.int 10)) (.d (.int 18)) = some (.d (.int 1000000000000000000)) := rfl
  obtain ⟨a, ha⟩ : ∃ a : Int, (if c < 0 then -c else c) = a := ⟨_, rfl⟩
  have oa : opAbs (.d (.int c)) = some (.d (.int a)) := by rw [← ha]; rfl
  have ab : 0 ≤ a := by rw [← ha]; split <;> omega
  by_cases h : at' < cells.length ∧ 1000000000000000000 ≤ a
  · refine ⟨a % many, penL cells (at' + 1) (a / many), [.c 0, .d (.int many), .u, .d (.int at'), .d (.int c), .u], ?_, Int.emod_nonneg _ (by omega), Int.emod_lt_of_pos _ hm, cells, at' + 1, _, rfl, h63, by omega, by omega, Int.ediv_nonneg ab (by omega)⟩
    simp [-opAbs_i, oa, cRestC, hp, h.1, h.2, opMod_i hm, opDiv_i hm hm2, penL, gL0, pL2]
  · have hn : (at' < cells.length → ¬ (1000000000000000000 ≤ a)) := fun a b => h ⟨a, b⟩
    have hc1 : 0 ≤ c % 2147483587 := Int.emod_nonneg _ (by decide)
    have hc2 : c % 2147483587 < 2147483587 := Int.emod_lt_of_pos _ (by decide)
    have m1 : opMulV (.d (.int 50021)) (.d (.int at')) = some (.d (.int (50021 * at'))) := opMul_i (mulOk_small (by omega) (by omega))
    have m2 : opMulV (.d (.int (c % 2147483587 + 50021 * at' + 23))) (.d (.int 48271)) = some (.d (.int ((c % 2147483587 + 50021 * at' + 23) * 48271))) := opMul_i (mulOk_small (by omega) (by omega))
    generalize hx : (c % 2147483587 + 50021 * at' + 23) * 48271 % 2147483629 = x at *
    have hx0 : 0 ≤ x := by rw [← hx]; exact Int.emod_nonneg _ (by decide)
    have hx1 : x < 2147483629 := by rw [← hx]; exact Int.emod_lt_of_pos _ (by decide)
    have m3 : opMulV (.d (.int x)) (.d (.int x)) = some (.d (.int (x * x))) := opMul_i (mulOk_small (by omega) (by omega))
    have b1 : x * x ≤ 2147483629 * 2147483629 := Int.mul_le_mul (by omega) (by omega) hx0 (by omega)
    have b0 : 0 ≤ x * x := Int.mul_nonneg hx0 hx0
    have m3b : opMulV (.d (.int (x * x))) (.d (.int x)) = some (.d (.int (x * x * x))) := opMul_b (by omega) (by omega) (by omega) (by omega)
    have m4 : opMulV (.d (.int 69621)) (.d (.int x)) = some (.d (.int (69621 * x))) := opMul_i (mulOk_small (by omega) (by omega))
    generalize hy : (x * x * x + 69621 * x + at') % 2147483563 = y at *
    have hy0 : 0 ≤ y := by rw [← hy]; exact Int.emod_nonneg _ (by decide)
    have hy1 : y < 2147483563 := by rw [← hy]; exact Int.emod_lt_of_pos _ (by decide)
    have hz0 : 0 ≤ y % 40009 := Int.emod_nonneg _ (by decide)
    have hz1 : y % 40009 < 40009 := Int.emod_lt_of_pos _ (by decide)
    have m5 : opMulV (.d (.int y)) (.d (.int (y % 40009 + 7))) = some (.d (.int (y * (y % 40009 + 7)))) := opMul_i (mulOk_small (by omega) (by omega))
    generalize hw : y * (y % 40009 + 7) % 2147483549 = z at *
    refine ⟨z / 64 % many, penL cells (at' + 1) 0, [.c 0, .d (.int many), .u, .d (.int at'), .d (.int c), .d (.int y)], ?_, Int.emod_nonneg _ (by omega), Int.emod_lt_of_pos _ hm, cells, at' + 1, 0, rfl, h63, by omega, by omega, by omega⟩
    by_cases h1 : at' < cells.length
    · simp [-opAbs_i, oa, cRestC, hp, h1, hn h1, opMod_i hm, opMod_i, opDiv_s, m1, m2, m3, m3b, m4, m5, hx, hy, hw, penL, gL0]
    · simp [-opAbs_i, oa, cRestC, hp, h1, opMod_i hm, opMod_i, opDiv_s, m1, m2, m3, m3b, m4, m5, hx, hy, hw, penL, gL0]
theorem drawC : IsDraw fDrawC IsPenL := by
  intro B p r many hp hB hm hm2
  obtain ⟨cells, at', left, rfl, h63, ha0, haB, hl⟩ := hp.ex
  unfold fDrawC
  rw [runF_s]
  by_cases h : 0 < left
  · refine ⟨left % many, penL cells at' (left / many), ?_, Int.emod_nonneg _ (by omega), Int.emod_lt_of_pos _ hm, cells, at', left / many, rfl, h63, ha0, by omega, Int.ediv_nonneg hl (by omega)⟩
    simp [cDrawC, h, opMod_i hm, opDiv_i hm hm2, penL, gL2, pL2]
  · have hl0 : left = 0 := by omega
    subst hl0
    have m1 : opMulV (.d (.int 30011)) (.d (.int at')) = some (.d (.int (30011 * at'))) := opMul_i (mulOk_small (by omega) (by omega))
    by_cases hc : 0 < cells.length
    · have hc' : (0 : Int) < cells.length := by omega
      have hi0 : 0 ≤ at' % cells.length := Int.emod_nonneg _ (by omega)
      have hi1 : at' % cells.length < cells.length := Int.emod_lt_of_pos _ hc'
      obtain ⟨c, hcx⟩ : ∃ c, cells[(at' % (cells.length : Int)).toNat]? = some c := ⟨_, List.getElem?_eq_getElem (by omega)⟩
      have ix := opIx_l (ds := cells.map PyData.int) (i := at' % cells.length) (x := .int c) (atI_nat hi0 (by rw [List.getElem?_map, hcx]; rfl))
      obtain ⟨v, p', v', e, h1, h2, h3⟩ := restC (c := c) (r := r) h63 ha0 haB hB hm hm2
      refine ⟨v, p', ?_, h1, h2, h3⟩
      simp only [penL] at e
      simp [cDrawC, h, m1, hc, hc', opMod_i hc', ix, e, penL, gL0, gL1, gL2, pL1]
    · obtain ⟨v, p', v', e, h1, h2, h3⟩ := restC (c := 30011 * at' + 13) (r := r) h63 ha0 haB hB hm hm2
      refine ⟨v, p', ?_, h1, h2, h3⟩
      simp only [penL] at e
      simp [cDrawC, h, m1, hc, e, penL, gL0, gL1, gL2, pL1]
theorem dC {B : Nat} {p : Cell} (r : List Cell) (many : Int) (hp : IsPenL B p) (hB : B < 1000000 := by omega) (hm : 0 < many := by omega) (h2 : many < 18446744073709551616 := by omega) : ∃ v p', fDrawC [.c 0, .d (.int many)] (p :: r) = .ok (.d (.int v)) (p' :: r) ∧ 0 ≤ v ∧ v < many ∧ IsPenL (B + 1) p' := by
  obtain ⟨v, p', h⟩ := drawC B p r many hp hB hm (log2_many hm (by omega))
  exact ⟨v, p', h⟩
/-! ### lowest terms, the third way -/
def cMeasureC : CS :=
 (cSeq (cWh (fun _ => 1000000) (cB (cOp2 opNe (cVar 1) (cC (.int 0))))
 (cPar 0 1 (cVar 1) (cOp2 opMod (cVar 0) (cVar 1))))
 (cRet (cOp1 opAbs (cVar 0))))
def fMeasureC : Fn := runF 2 cMeasureC
theorem measureC_ok {a b k : Nat} (hb : b < 2 ^ k) (hk : k < 400000) : fMeasureC [.d (.int a), .d (.int b)] [] = .ok (.d (.int (Nat.gcd a b : Nat))) [] := by
  obtain ⟨s', e, q⟩ := whL_inv (t := cB (cOp2 opNe (cVar 1) (cC (.int 0)))) (b := cPar 0 1 (cVar 1) (cOp2 opMod (cVar 0) (cVar 1)))
    (fun k s => ∃ x y j : Nat, s = ⟨[.d (.int x), .d (.int y)], []⟩ ∧ Nat.gcd x y = Nat.gcd a b ∧ ((k = 2 * j ∧ y < 2 ^ j) ∨ (k + 1 = 2 * j ∧ y < x ∧ x < 2 ^ j)))
    (fun s => s = ⟨[.d (.int (Nat.gcd a b : Nat)), .d (.int 0)], []⟩) (fun k s hi => by
      obtain ⟨x, y, j, rfl, hg, hc⟩ := hi
      by_cases hy : y = 0
      · subst hy
        refine .inl ⟨⟨[.d (.int x), .d (.int 0)], []⟩, by simp, ?_⟩
        rw [Nat.gcd_zero_right] at hg
        rw [hg]
      · have hy0 : 0 < y := Nat.pos_of_ne_zero hy
        have hyI : (0 : Int) < (y : Int) := by omega
        have hm := Nat.mod_lt x hy0
        have om : opMod (.d (.int x)) (.d (.int y)) = some (.d (.int ((x % y : Nat) : Int))) := opMod_i hyI
        have hgcd : Nat.gcd y (x % y) = Nat.gcd a b := by
          rw [← hg, Nat.gcd_comm x y, Nat.gcd_rec y x, Nat.gcd_comm]
        suffices hh : ∃ k', k' < k ∧ ∃ j : Nat, ((k' = 2 * j ∧ x % y < 2 ^ j) ∨ (k' + 1 = 2 * j ∧ x % y < y ∧ y < 2 ^ j)) by
          obtain ⟨k', hk', j', hj⟩ := hh
          exact .inr ⟨⟨[.d (.int x), .d (.int y)], []⟩, ⟨[.d (.int y), .d (.int ((x % y : Nat) : Int))], []⟩, k', by simp [hy], .inl (by simp [om]), hk', ⟨y, x % y, j', rfl, hgcd, hj⟩⟩
        rcases hc with ⟨hk, hlt⟩ | ⟨hk, hlt, hx⟩
        · have hj : j ≠ 0 := fun z => by
            rw [z] at hlt
            have : (2 : Nat) ^ 0 = 1 := rfl
            omega
          exact ⟨2 * j - 1, by omega, j, .inr ⟨by omega, hm, hlt⟩⟩
        · have h2 := two_mod hy0 (Nat.le_of_lt hlt)
          have hj : j = j - 1 + 1 := by omega
          rw [hj, Nat.pow_succ] at hx
          exact ⟨2 * (j - 1), by omega, j - 1, .inl ⟨rfl, by omega⟩⟩) 1000000 (2 * k) ⟨[.d (.int a), .d (.int b)], []⟩ (by omega) ⟨a, b, k, rfl, rfl, .inl ⟨rfl, hb⟩⟩
  unfold fMeasureC
  rw [runF_s]
  show fin [] (cSeq _ _ _) = _
  rw [cSeq_s]
  show fin [] ((whL _ _ 1000000 ⟨[.d (.int a), .d (.int b)], []⟩).then _) = _
  rw [e, q]
  have g0 : ¬ (((Nat.gcd a b : Nat) : Int) < 0) := by omega
  simp [g0]
def cLowestC : CS :=
 (cSeq (cSet 2 (cCallP fMeasureC (lCons (cVar 0) (lCons (cVar 1) lNil))))
 (cRet (cTup (cCons (cOp2 opDiv (cVar 0) (cVar 2)) (cCons (cOp2 opDiv (cVar 1) (cVar 2)) cNil)))))
def fLowestC : Fn := runF 3 cLowestC
theorem lowestC_eq {t u : Int} {k : Nat} (h : 0 ≤ t) (h1 : 1 ≤ u) (hk : Bs k u) (hk2 : k ≤ 8900) : fLowestC [.d (.int t), .d (.int u)] [] = fLawLowest [.d (.int t), .d (.int u)] [] := by
  have e1 := measureC_ok (a := t.natAbs) (b := u.natAbs) (k := k) hk (by omega)
  have e2 := measure_ok (a := t.natAbs) (b := u.natAbs) (k := k) hk (by omega)
  rw [show ((t.natAbs : Nat) : Int) = t by omega, show ((u.natAbs : Nat) : Int) = u by omega] at e1 e2
  unfold fLowestC fLawLowest
  rw [runF_s, runF_s]
  simp [cLawLowest, cLowestC, e1, e2]
theorem lowestC_ok {top bot : Int} {j k : Nat} (h0 : 0 ≤ top) (hb : 1 ≤ bot) (ht : Bs j top) (hk : Bs k bot) (hk2 : k ≤ 8900) :
    ∃ p q, fLowestC [.d (.int top), .d (.int bot)] [] = .ok (.d (shD p q)) [] ∧ Sh (max j k) p q ∧ p * bot = top * q := by
  rw [lowestC_eq h0 hb hk hk2]
  exact lowest_ok h0 hb ht hk hk2
end Vm
namespace Vm
open PySem L2
@[simp] theorem opSorted_s {ns : List Int} : opSorted (.d (.list (ns.map PyData.int))) = some (.new (.l ((sortA ns).map PyData.int))) := by
  unfold opSorted
  dsimp only
  rw [ints?_map]
  rfl
/-! ### rules drawn, the third way -/
theorem power_ok {a m : Nat} (ha : a ≤ 13) (hm : m ≤ 8) : fPower [.d (.int (a : Nat)), .d (.int (m : Nat))] [] = .ok (.d (.int ((a ^ m : Nat) : Int))) [] := by
  unfold fPower
  refine run_eq ?_
  unfold cPower
  refine st (s1 := ⟨[.d (.int (a : Nat)), .d (.int (m : Nat)), .d (.int 1), .u], []⟩) (by simp; exact .rfl) ?_
  have r1 := ciR1_n (c := cVar 1) (s := ⟨[.d (.int (a : Nat)), .d (.int (m : Nat)), .d (.int 1), .u], []⟩) (s1 := ⟨[.d (.int (a : Nat)), .d (.int (m : Nat)), .d (.int 1), .u], []⟩) (n := m) (by simp) (by omega)
  refine w_cut (fun s => ∃ x3, s = ⟨[.d (.int (a : Nat)), .d (.int (m : Nat)), .d (.int ((a ^ m : Nat) : Int)), x3], []⟩) ?_ fun s hs => ?_
  · refine w_for (ds := (List.range m).map fun i : Nat => PyData.int (i : Int)) (fun i s => ∃ x3, s = ⟨[.d (.int (a : Nat)), .d (.int (m : Nat)), .d (.int ((a ^ i : Nat) : Int)), x3], []⟩) r1 ⟨_, by simp; rfl⟩ (fun i d s hd hi => ?_) fun s hs => by
      rw [List.length_map, List.length_range] at hs
      exact hs
    obtain ⟨x3, rfl⟩ := hi
    obtain ⟨hi, rfl⟩ := rangeN_get hd
    refine ⟨_, rfl, ?_⟩
    have b1 : a ^ i ≤ 13 ^ 8 := Nat.le_trans (Nat.pow_le_pow_left ha i) (Nat.pow_le_pow_right (by decide) (by omega))
    have b2 : (13 : Nat) ^ 8 = 815730721 := rfl
    have mu : opMulV (.d (.int ((a ^ i : Nat) : Int))) (.d (.int (a : Nat))) = some (.d (.int (((a ^ i : Nat) : Int) * (a : Int)))) := opMul_b (by omega) (by omega) (by omega) (by omega)
    have e : ((a ^ i : Nat) : Int) * (a : Int) = ((a ^ (i + 1) : Nat) : Int) := by rw [Nat.pow_succ, Int.natCast_mul]
    rw [e] at mu
    generalize ((a ^ (i + 1) : Nat) : Int) = z at *
    generalize ((a ^ i : Nat) : Int) = y at *
    exact st_last (s1 := ⟨[.d (.int (a : Nat)), .d (.int (m : Nat)), .d (.int z), .d (.int (i : Nat))], []⟩) (by simp [mu]; exact .rfl) ⟨_, rfl⟩
  · obtain ⟨x3, rfl⟩ := hs
    generalize ((a ^ m : Nat) : Int) = y at *
    exact w_rD (x := .int y) [] ⟨_, by simp; exact .rfl⟩ fun _ => ok_0 ⟨rfl, rfl⟩
def cRuleC : CS :=
 (cSeq (cSet 2 (cCall fDrawC (lCons (cVar 0) (lCons (cC (.int 6)) lNil))))
 (cSeq (cIfS (cB (cOp2 opEq (cVar 2) (cC (.int 0))))
 (cSeq (cSet 3 (cCall fDrawC (lCons (cVar 0) (lCons (cVar 1) lNil))))
 (cRet (cOp1 opTuple (cLc [9] (ciR1 (cVar 1)) (tgN 9) ctYes (cTup (cCons (cOp1 opInt (cOp2 opEq (cVar 9) (cVar 3))) (cCons (cC (.int 1)) cNil)))))))
 cNx)
 (cSeq (cIfS (cB (cOp2 opEq (cVar 2) (cC (.int 1))))
 (cSeq (cSet 4 (cOp2 opAdd (cC (.int 1)) (cCall fDrawC (lCons (cVar 0) (lCons (cOp2 opSub (cC (.int 3)) (cOp1 opInt (cOp2 opGt (cVar 1) (cC (.int 10))))) lNil)))))
 (cSeq (cSet 5 (cOp2 opAdd (cLst (cCons (cC (.int 0)) cNil)) (cLc [9] (ciR1 (cVar 1)) (tgN 9) ctYes (cCallP fPower (lCons (cOp2 opAdd (cVar 9) (cC (.int 1))) (lCons (cVar 4) lNil))))))
 (cRet (cOp1 opTuple (cLc [9] (ciR1 (cVar 1)) (tgN 9) ctYes (cCallP fLowestC (lCons (cOp2 opSub (cOp2 opIx (cVar 5) (cOp2 opAdd (cVar 9) (cC (.int 1)))) (cOp2 opIx (cVar 5) (cVar 9))) (lCons (cCallP fPower (lCons (cVar 1) (lCons (cVar 4) lNil))) lNil))))))))
 cNx)
 (cSeq (cIfS (cB (cOp2 opEq (cVar 2) (cC (.int 2))))
 (cSeq (cSet 6 (cOp2 opAdd (cC (.int 1)) (cCall fDrawC (lCons (cVar 0) (lCons (cC (.int 1000)) lNil)))))
 (cSeq (cSet 7 (cOp1 opSorted (cOp2 opAdd (cLst (cCons (cC (.int 0)) (cCons (cVar 6) cNil))) (cLc [9] (ciR1 (cOp2 opSub (cVar 1) (cC (.int 1)))) (tgN 9) ctYes (cCall fDrawC (lCons (cVar 0) (lCons (cOp2 opAdd (cVar 6) (cC (.int 1))) lNil)))))))
 (cRet (cOp1 opTuple (cLc [9] (ciR1 (cVar 1)) (tgN 9) ctYes (cCallP fLowestC (lCons (cOp2 opSub (cOp2 opIx (cVar 7) (cOp2 opAdd (cVar 9) (cC (.int 1)))) (cOp2 opIx (cVar 7) (cVar 9))) (lCons (cVar 6) lNil))))))))
 cNx)
 (cSeq (cSetM 8 (cLc [9] (ciR1 (cVar 1)) (tgN 9) ctYes (cCall fDrawC (lCons (cVar 0) (lCons (cOp2 opIx (cLst (cCons (cC (.int 10)) (cCons (cC (.int 2)) (cCons (cC (.int 4)) cNil)))) (cOp2 opSub (cVar 2) (cC (.int 3)))) lNil)))))
 (cSeq (cAugL (cVar 8) (cCall fDrawC (lCons (cVar 0) (lCons (cVar 1) lNil))) (cC (.int 1)))
 (cRet (cOp1 opTuple (cLc [10] (ciSeq (cFz 8)) (tgN 10) ctYes (cCallP fLowestC (lCons (cVar 10) (lCons (cOp1 opSum (cVar 8)) lNil))))))))))))
def fRuleC : Fn := runF 11 cRuleC
end Vm
namespace Vm
open PySem L2 PySem.Spec PyProof.Rows
/-! ### {} whose keys will be tuples -/
def cNewT : CE := fun s => .ok (.new (.t [])) s
def cNewR : CE := fun s => .ok (.new (.r [])) s
@[simp] theorem cNewT_s {s : S} : cNewT s = .ok (.new (.t [])) s := Eq.trans rfl rfl
@[simp] theorem cNewR_s {s : S} : cNewR s = .ok (.new (.r [])) s := Eq.trans rfl rfl
section
variable {X : Cx} {ec : EC} {W : WX}
/-! ### a dict that will not change any more is locked: from then on it is data -/
def tD (kvs : List (List L2.Key × D)) : D := .dict (tagT :: kvs.map fun p => (tupK p.1, p.2))
/-! ### for k in d, d a locked dict -/
end
end Vm
namespace Vm
open PySem L2 PySem.Spec PyProof.Rows
/-! ### loads as keys -/
def kI (xs : List Int) : List L2.Key := xs.map Sum.inl
def ldD (xs : List Int) : D := .tuple (xs.map PyData.int)
section
variable {β γ : Type}
def keys (F : List (List Int × β)) : List (List Int) := F.map (·.1)
def aget (F : List (List Int × β)) (k : List Int) : Option β := (F.find? fun p => decide (p.1 = k)).map (·.2)
def aput (F : List (List Int × β)) (k : List Int) (v : β) : List (List Int × β) := if (F.any fun p => decide (p.1 = k)) = true then F.map (fun p => if p.1 = k then (p.1, v) else p) else F ++ [(k, v)]
theorem aget_nil {k : List Int} : aget ([] : List (List Int × β)) k = none := rfl
theorem aget_cons {p : List Int × β} {F : List (List Int × β)} {k : List Int} : aget (p :: F) k = if p.1 = k then some p.2 else aget F k := by
  unfold aget
  rw [List.find?_cons]
  by_cases h : p.1 = k
  · simp [h]
  · simp [h]
theorem any_keys {F : List (List Int × β)} {k : List Int} : (F.any fun p => decide (p.1 = k)) = true ↔ k ∈ keys F := by
  unfold keys
  rw [List.any_eq_true, List.mem_map]
  constructor
  · rintro ⟨p, h1, h2⟩
    exact ⟨p, h1, of_decide_eq_true h2⟩
  · rintro ⟨p, h1, h2⟩
    exact ⟨p, h1, decide_eq_true h2⟩
theorem aget_isSome {k : List Int} : ∀ {F : List (List Int × β)}, (aget F k).isSome = true ↔ k ∈ keys F
  | [] => by simp [aget, keys]
  | p :: F => by
    rw [aget_cons]
    show _ ↔ k ∈ p.1 :: keys F
    rw [List.mem_cons]
    by_cases h : p.1 = k
    · simp [h]
    · rw [if_neg h, aget_isSome]
      exact ⟨.inr, fun z => z.resolve_left fun e => h e.symm⟩
theorem aget_none {F : List (List Int × β)} {k : List Int} (h : k ∉ keys F) : aget F k = none := by
  cases e : aget F k with
  | none => rfl
  | some v => exact absurd (aget_isSome.mp (by rw [e]; rfl)) h
theorem aput_old {F : List (List Int × β)} {k : List Int} {v : β} (h : k ∈ keys F) : aput F k v = F.map (fun p => if p.1 = k then (p.1, v) else p) := by
  unfold aput
  rw [if_pos (any_keys.mpr h)]
theorem aput_new {F : List (List Int × β)} {k : List Int} {v : β} (h : k ∉ keys F) : aput F k v = F ++ [(k, v)] := by
  unfold aput
  rw [if_neg fun z => h (any_keys.mp z)]
theorem keys_aput {F : List (List Int × β)} {k : List Int} {v : β} : keys (aput F k v) = if k ∈ keys F then keys F else keys F ++ [k] := by
  by_cases h : k ∈ keys F
  · rw [aput_old h, if_pos h]
    unfold keys
    rw [List.map_map]
    apply List.map_congr_left
    intro p _
    show (if p.1 = k then (p.1, v) else p).1 = p.1
    split <;> rfl
  · rw [aput_new h, if_neg h]
    unfold keys
    rw [List.map_append]
    rfl
theorem nodup_aput {F : List (List Int × β)} {k : List Int} {v : β} (h : (keys F).Nodup) : (keys (aput F k v)).Nodup := by
  rw [keys_aput]
  split
  · exact h
  · rename_i hk
    refine List.nodup_append.mpr ⟨h, by simp, fun a ha b hb e => ?_⟩
    rw [List.mem_singleton.mp hb] at e
    exact hk (e ▸ ha)
theorem mem_aput {F : List (List Int × β)} {k t : List Int} {v : β} : t ∈ keys (aput F k v) ↔ t ∈ keys F ∨ t = k := by
  rw [keys_aput]
  split
  · rename_i h
    exact ⟨.inl, fun z => z.elim id fun e => e ▸ h⟩
  · rw [List.mem_append, List.mem_singleton]
theorem aget_map {v : β} {k t : List Int} : ∀ {F : List (List Int × β)}, aget (F.map fun p => if p.1 = k then (p.1, v) else p) t = if t = k then (aget F t).map fun _ => v else aget F t
  | [] => by simp [aget]
  | p :: F => by
    rw [List.map_cons, aget_cons, aget_cons, aget_map]
    by_cases h1 : p.1 = k
    · rw [if_pos h1]
      by_cases h2 : p.1 = t
      · rw [if_pos h2, if_pos h2, if_pos (h2.symm.trans h1)]
        rfl
      · have h3 : ¬ t = k := fun z => h2 (h1.trans z.symm)
        rw [if_neg h2, if_neg h2, if_neg h3]
    · rw [if_neg h1]
      by_cases h2 : p.1 = t
      · have h3 : ¬ t = k := fun z => h1 (h2.trans z)
        rw [if_pos h2, if_pos h2, if_neg h3]
      · rw [if_neg h2, if_neg h2]
theorem aget_append {t : List Int} {G : List (List Int × β)} : ∀ {F : List (List Int × β)}, aget (F ++ G) t = (aget F t).or (aget G t)
  | [] => by simp [aget]
  | p :: F => by
    rw [List.cons_append, aget_cons, aget_cons, aget_append]
    split
    · rfl
    · rfl
theorem aget_aput {F : List (List Int × β)} {k t : List Int} {v : β} : aget (aput F k v) t = if t = k then some v else aget F t := by
  by_cases h : k ∈ keys F
  · rw [aput_old h, aget_map]
    by_cases e : t = k
    · subst e
      rw [if_pos rfl, if_pos rfl]
      obtain ⟨w, hw⟩ := Option.isSome_iff_exists.mp (aget_isSome.mpr h)
      rw [hw]
      rfl
    · rw [if_neg e, if_neg e]
  · rw [aput_new h, aget_append, aget_cons]
    by_cases e : t = k
    · subst e
      rw [aget_none h, if_pos rfl, if_pos rfl]
      rfl
    · rw [if_neg e, if_neg (fun z => e z.symm), aget_nil, Option.or_none]
end
/-! the cells -/
def tkv (F : List (List Int × D)) : List (List L2.Key × D) := F.map fun p => (kI p.1, p.2)
/-- a dict of loads as data -/
def dT (F : List (List Int × D)) : D := tD (tkv F)
/-! the order -/
def sortL (ks : List (List Int)) : List (List Int) := ks.mergeSort fun x y => decide (x ≤ y)
theorem sortL_perm (ks : List (List Int)) : (sortL ks).Perm ks := List.mergeSort_perm _ _
theorem sortL_pw (ks : List (List Int)) : (sortL ks).Pairwise (· ≤ ·) := by
  have := List.pairwise_mergeSort (le := fun x y : List Int => decide (x ≤ y)) (fun a b c h1 h2 => decide_eq_true (List.le_trans (of_decide_eq_true h1) (of_decide_eq_true h2))) (fun a b => by
    rcases List.le_total a b with h | h
    · simp [h]
    · simp [h]) ks
  exact this.imp fun h => of_decide_eq_true h
theorem sortL_congr {as bs : List (List Int)} (h : as.Perm bs) : sortL as = sortL bs :=
  ((sortL_perm as).trans (h.trans (sortL_perm bs).symm)).eq_of_pairwise (fun a b _ _ h1 h2 => List.le_antisymm h1 h2) (sortL_pw as) (sortL_pw bs)
theorem sortL_mem {ks : List (List Int)} {k : List Int} : k ∈ sortL ks ↔ k ∈ ks := (sortL_perm ks).mem_iff
theorem sortL_len {ks : List (List Int)} : (sortL ks).length = ks.length := (sortL_perm ks).length_eq
theorem sortL_set {as bs : List (List Int)} (ha : as.Nodup) (hb : bs.Nodup) (h : ∀ k, k ∈ as ↔ k ∈ bs) : sortL as = sortL bs := sortL_congr ((List.perm_ext_iff_of_nodup ha hb).mpr h)
/-! ### weights counted -/
def accW (F : List (List Int × Int)) (e : List Int × Int) : List (List Int × Int) := aput F e.1 ((aget F e.1).getD 0 + e.2)
def wt (F : List (List Int × Int)) (k : List Int) : Int := (aget F k).getD 0
def sumW (F : List (List Int × Int)) : Int := (F.map (·.2)).sum
theorem wt_acc {F : List (List Int × Int)} {e : List Int × Int} {t : List Int} : wt (accW F e) t = wt F t + if e.1 = t then e.2 else 0 := by
  unfold accW wt
  rw [aget_aput]
  by_cases h : t = e.1
  · rw [if_pos h, if_pos h.symm, h]
    rfl
  · rw [if_neg h, if_neg fun z => h z.symm, Int.add_zero]
theorem keys_acc {F : List (List Int × Int)} {e : List Int × Int} {t : List Int} : t ∈ keys (accW F e) ↔ t ∈ keys F ∨ t = e.1 := mem_aput
theorem sum_upd {k : List Int} {v : Int} : ∀ {F : List (List Int × Int)}, (keys F).Nodup → k ∈ keys F → sumW (F.map fun p => if p.1 = k then (p.1, v) else p) = sumW F - wt F k + v
  | p :: F, hn, hk => by
    have hn : (p.1 :: keys F).Nodup := hn
    rw [List.nodup_cons] at hn
    have hk : k ∈ p.1 :: keys F := hk
    show ((if p.1 = k then (p.1, v) else p).2 + sumW (F.map _)) = (p.2 + sumW F) - wt (p :: F) k + v
    by_cases h : p.1 = k
    · have hm : (F.map fun p => if p.1 = k then (p.1, v) else p) = F := by
        conv => rhs; rw [← List.map_id F]
        apply List.map_congr_left
        intro q hq
        have : q.1 ≠ k := fun z => hn.1 (by rw [h, ← z]; exact List.mem_map_of_mem (f := (·.1)) hq)
        rw [if_neg this]
        rfl
      rw [if_pos h, hm]
      unfold wt
      rw [aget_cons, if_pos h]
      show v + sumW F = p.2 + sumW F - p.2 + v
      omega
    · rw [if_neg h, sum_upd hn.2 ((List.mem_cons.mp hk).resolve_left fun z => h z.symm)]
      unfold wt
      rw [aget_cons, if_neg h]
      omega
theorem sum_acc {F : List (List Int × Int)} {e : List Int × Int} (hn : (keys F).Nodup) : sumW (accW F e) = sumW F + e.2 := by
  unfold accW
  by_cases h : e.1 ∈ keys F
  · rw [aput_old h, sum_upd hn h]
    unfold wt
    omega
  · rw [aput_new h, aget_none h]
    unfold sumW
    rw [List.map_append, List.sum_append]
    simp
def accL (E : List (List Int × Int)) : List (List Int × Int) := E.foldl accW []
/-- what the events E give to t -/
def evW (E : List (List Int × Int)) (t : List Int) : Int := (E.map fun e => if e.1 = t then e.2 else 0).sum
theorem accL_ok (E : List (List Int × Int)) : ∀ F : List (List Int × Int), (keys F).Nodup → (keys (E.foldl accW F)).Nodup ∧ (∀ t, t ∈ keys (E.foldl accW F) ↔ t ∈ keys F ∨ t ∈ keys E) ∧ (∀ t, wt (E.foldl accW F) t = wt F t + evW E t) ∧ sumW (E.foldl accW F) = sumW F + sumW E := by
  induction E with
  | nil =>
    intro F hn
    exact ⟨hn, fun t => by simp [keys], fun t => by simp [evW], by simp [sumW]⟩
  | cons e E ih =>
    intro F hn
    obtain ⟨h1, h2, h3, h4⟩ := ih (accW F e) (nodup_aput hn)
    refine ⟨h1, fun t => ?_, fun t => ?_, ?_⟩
    · show t ∈ keys (E.foldl accW (accW F e)) ↔ t ∈ keys F ∨ t ∈ e.1 :: keys E
      rw [h2, keys_acc, List.mem_cons, or_assoc]
    · show wt (E.foldl accW (accW F e)) t = wt F t + ((if e.1 = t then e.2 else 0) + evW E t)
      rw [h3, wt_acc]
      omega
    · show sumW (E.foldl accW (accW F e)) = sumW F + (e.2 + sumW E)
      rw [h4, sum_acc hn]
      omega
theorem accL_nodup (E : List (List Int × Int)) : (keys (accL E)).Nodup := (accL_ok E [] .nil).1
theorem accL_keys {E : List (List Int × Int)} {t : List Int} : t ∈ keys (accL E) ↔ t ∈ keys E := by
  rw [accL, (accL_ok E [] .nil).2.1]
  simp [keys]
theorem accL_wt {E : List (List Int × Int)} {t : List Int} : wt (accL E) t = evW E t := by
  rw [accL, (accL_ok E [] .nil).2.2.1]
  simp [wt, aget]
/-! ### parts gathered -/
end Vm
namespace Vm
open PySem L2 PySem.Spec PyProof.Rows
/-! ### d.get(k, x) -/
/-- a dict whose keys are tuples of tuples -/
def isTagN : List (D × D) → Bool
  | (.list (_ :: _), _) :: _ => true
  | _ => false
def dctOd : Od → Bool
  | .c (.k _) => true
  | .c (.t _) => true
  | .d (.dict es) => !isTagN es
  | _ => false
def cGet (co ck cd : CE) : CE := fun s => (cv co s).bind fun o s1 => opt (o.od s1.m) fun o1 => if dctOd o1 = true then (cv ck s1).bind fun k s2 => (cv cd s2).bind fun d s3 => opt (o.od s3.m) fun oo => opt (k.od s3.m) fun kk => opt (look oo kk) fun r => match r, d with
  | some x, _ => .ok (.d x) s3
  | none, .d y => .ok (.d y) s3
  | _, _ => .bad
  else .bad
/-! its value -/
def kGet4 (o k d : Rv) (s3 : S) : R Rv := opt (o.od s3.m) fun oo => opt (k.od s3.m) fun kk => opt (look oo kk) fun r => match r, d with
  | some x, _ => .ok (.d x) s3
  | none, .d y => .ok (.d y) s3
  | _, _ => .bad
def kGet3 (o k : Rv) (d : Rv) (s3 : S) : R Rv := kGet4 o k d s3
def kGet2 (cd : CE) (o : Rv) (k : Rv) (s2 : S) : R Rv := (cv cd s2).bind (kGet3 o k)
def kGet1 (ck cd : CE) (o : Rv) (s1 : S) : R Rv := opt (o.od s1.m) fun o1 => if dctOd o1 = true then (cv ck s1).bind (kGet2 cd o) else .bad
@[simp] theorem cGet_s {co ck cd : CE} {s : S} : cGet co ck cd s = (cv co s).bind (kGet1 ck cd) := Eq.trans rfl rfl
@[simp] theorem kGet2_s {cd : CE} {o k : Rv} {s2 : S} : kGet2 cd o k s2 = (cv cd s2).bind (kGet3 o k) := Eq.trans rfl rfl
@[simp] theorem kGet3_s {o k d : Rv} {s3 : S} : kGet3 o k d s3 = kGet4 o k d s3 := Eq.trans rfl rfl
@[simp] theorem kGet1_t {ck cd : CE} {n : Nat} {kvs : List (List L2.Key × D)} {s1 : S} (h : s1.m[n]? = some (.t kvs)) : kGet1 ck cd (.ref n) s1 = (cv ck s1).bind (kGet2 cd (.ref n)) := by
  unfold kGet1
  rw [od_ref, h, odC_t]
  rfl
@[simp] theorem isTagN_T {es : List (D × D)} : isTagN (tagT :: es) = false := Eq.trans rfl rfl
@[simp] theorem isTagN_k {kvs : List (L2.Key × D)} : isTagN (kvs.map fun p => (kD p.1, p.2)) = false := by
  cases kvs with
  | nil => rfl
  | cons p _ => obtain ⟨k | k, d⟩ := p <;> rfl
@[simp] theorem kGet1_d {ck cd : CE} {es : List (D × D)} {s1 : S} (h : isTagN es = false) : kGet1 ck cd (.d (.dict es)) s1 = (cv ck s1).bind (kGet2 cd (.d (.dict es))) := by
  unfold kGet1
  show (if (!isTagN es) = true then _ else _) = _
  rw [h]
  rfl
end Vm
namespace Vm
open PySem L2 PySem.Spec PyProof.Rows
/-! ### the memory of a dict of lists -/
def gi : Nat → List (List Int × List D) → List Cell
  | _, [] => []
  | j, p :: G => .i 0 j p.2 :: gi (j + 1) G
def gm (G : List (List Int × List D)) : List Cell := .r ((keys G).map kI) :: gi 0 G
end Vm
namespace Vm
open PySem L2 PySem.Spec PyProof.Rows
/-! ### shares of a common bottom -/
theorem tell_tight {j K : Nat} {d : D} {a N : Int} (h : Tell j d ((a : Rat) / N)) (hN : 1 ≤ N) (ba : Bs K a) (bN : Bs K N) (hK : 1 ≤ K) : Tell K d ((a : Rat) / N) := by
  obtain ⟨p, q, rfl, s, r⟩ := h.ex
  refine ⟨p, q, rfl, ?_, r⟩
  have hN' := rat_ne hN
  have e : p * N = a * q := by
    rw [← Rat.intCast_inj, Rat.intCast_mul, Rat.intCast_mul, r]
    grind
  have hq := s.pos
  have cop : Int.gcd q p = 1 := by rw [Int.gcd_comm]; exact s.cop
  have d1 : q ∣ N := by
    have : q ∣ p * N := ⟨a, by rw [e, Int.mul_comm]⟩
    exact cop_dvd this cop
  have d2 : p ∣ a := by
    have : p ∣ q * a := ⟨N, by rw [Int.mul_comm]; exact e.symm⟩
    exact cop_dvd this s.cop
  refine ⟨hq, s.cop, ?_, bN.le ?_⟩
  · by_cases h0 : a = 0
    · have : p = 0 := by
        rw [h0, Int.zero_mul] at e
        rcases Int.mul_eq_zero.mp e with z | z
        · exact z
        · omega
      rw [this]
      exact Nat.pow_pos (by decide)
    · exact ba.le (Nat.le_of_dvd (by omega) (Int.natAbs_dvd_natAbs.mpr d2))
  · exact Nat.le_of_dvd (by omega) (Int.natAbs_dvd_natAbs.mpr d1)
theorem bs_between {K : Nat} {a b : Int} (h0 : 0 ≤ a) (h : a ≤ b) (hb : Bs K b) : Bs K a := hb.le (by omega)
/-! ### spreads -/
def rowD (k : List Int) (d : D) : D := .tuple [ldD k, d]
/-- the rows ds are the spread of the weights F -/
def Spr (K : Nat) (F : List (List Int × Int)) (ds : List D) : Prop := ∃ g : List Int → D, ds = (sortL (keys F)).map (fun k => rowD k (g k)) ∧ ∀ k, k ∈ keys F → Tell K (g k) ((wt F k : Rat) / (sumW F : Int))
theorem Spr.one {K K' : Nat} {F F' : List (List Int × Int)} {ds ds' : List D} (h : Spr K F ds) (h' : Spr K' F' ds') (n : (keys F).Nodup) (n' : (keys F').Nodup) (hk : ∀ k, k ∈ keys F ↔ k ∈ keys F') (hw : ∀ k, k ∈ keys F → (wt F k : Rat) / (sumW F : Int) = (wt F' k : Rat) / (sumW F' : Int)) : ds = ds' := by
  obtain ⟨g, rfl, t⟩ := h
  obtain ⟨g', rfl, t'⟩ := h'
  rw [← sortL_set n n' hk]
  apply List.map_congr_left
  intro k hk'
  have hk' := sortL_mem.mp hk'
  unfold rowD
  rw [(t k hk').one ((t' k ((hk k).mp hk')).to (hw k hk').symm)]
/-! ### gathered -/
/-- the events' parts are the amounts over N -/
def EvR (K : Nat) (N : Int) (E : List (List Int × D)) (A : List (List Int × Int)) : Prop := Paired (fun (e : List Int × D) (a : List Int × Int) => e.1 = a.1 ∧ Tell K e.2 ((a.2 : Rat) / N) ∧ 0 ≤ a.2) E A
theorem EvR.pos {K : Nat} {N : Int} : ∀ {E : List (List Int × D)} {A : List (List Int × Int)}, EvR K N E A → ∀ a, a ∈ A → 0 ≤ a.2
  | _, _, .nil, a, h => nomatch h
  | _, _, .cons r q, a, h => by
    rcases List.mem_cons.mp h with rfl | h
    · exact r.2.2
    · exact EvR.pos q a h
end Vm
namespace Vm
open PySem L2 PySem.Spec PyProof.Rows
/-! ### a load changed by one, within a loop -/
/-! ### sums over events -/
theorem sum_keys : ∀ {F : List (List Int × Int)}, (keys F).Nodup → ((keys F).map (wt F)).sum = sumW F
  | [], _ => rfl
  | p :: F, hn => by
    have hn : (p.1 :: keys F).Nodup := hn
    rw [List.nodup_cons] at hn
    show wt (p :: F) p.1 + ((keys F).map (wt (p :: F))).sum = p.2 + sumW F
    have e1 : wt (p :: F) p.1 = p.2 := by
      unfold wt
      rw [aget_cons, if_pos rfl]
      rfl
    have e2 : (keys F).map (wt (p :: F)) = (keys F).map (wt F) := by
      apply List.map_congr_left
      intro k hk
      unfold wt
      rw [aget_cons, if_neg fun z : p.1 = k => hn.1 (z ▸ hk)]
    rw [e1, e2, sum_keys hn.2]
end Vm
namespace Vm
open PySem L2 PySem.Spec PyProof.Rows
/-! ### a load drawn -/
structure Ld (n : Nat) (b : Int) (k : List Int) : Prop where
  len : k.length = n
  pos : ∀ x, x ∈ k → 0 ≤ x
  sum : k.sum = b
  fall : k.Pairwise (· ≥ ·)
/-! ### a weight added to a cell -/
end Vm
namespace Vm
open PySem L2 PySem.Spec PyProof.Rows
theorem aput_len {β : Type} {F : List (List Int × β)} {k : List Int} {v : β} : (aput F k v).length ≤ F.length + 1 := by
  unfold aput
  split
  · rw [List.length_map]; omega
  · rw [List.length_append]; exact Nat.le_refl _
theorem sum_ge {F : List (List Int × Int)} (hn : (keys F).Nodup) (h : ∀ k, k ∈ keys F → 0 ≤ wt F k) : 0 ≤ sumW F ∧ ∀ k, k ∈ keys F → wt F k ≤ sumW F := by
  rw [← sum_keys hn]
  have h0 : ∀ x, x ∈ (keys F).map (wt F) → 0 ≤ x := fun x hx => by
    obtain ⟨k, hk, rfl⟩ := List.mem_map.mp hx
    exact h k hk
  exact ⟨sum_nonneg h0, fun k hk => mem_le_sum h0 _ (List.mem_map_of_mem hk)⟩
/-! ### the law's own leaving -/
end Vm
namespace Vm
open PySem L2 PySem.Spec PyProof.Rows
/-! ### how many loads there are -/
theorem nodup_len {α : Type} [DecidableEq α] : ∀ {xs ys : List α}, xs.Nodup → (∀ x, x ∈ xs → x ∈ ys) → xs.length ≤ ys.length
  | [], ys, _, _ => Nat.zero_le _
  | x :: xs, ys, hn, h => by
    rw [List.nodup_cons] at hn
    have hx := h x (List.mem_cons_self ..)
    have := nodup_len (ys := ys.erase x) hn.2 fun y hy => by
      have hne : y ≠ x := fun z => hn.1 (z ▸ hy)
      exact (List.mem_erase_of_ne hne).mpr (h y (List.mem_cons_of_mem _ hy))
    rw [List.length_erase_of_mem hx] at this
    have := List.length_pos_of_mem hx
    rw [List.length_cons]
    omega
/-! ### a spread as a text -/
end Vm
namespace Vm
open PySem L2 PySem.Spec PyProof.Rows
/-! ### balls come -/
/-- the rule's shares are the weights over their sum -/
structure RlW (K : Nat) (ws : List Int) (rl : List D) : Prop where
  len : rl.length = ws.length
  pos : ∀ w, w ∈ ws → 0 ≤ w
  s1 : 1 ≤ ws.sum
  at' : ∀ j, j < ws.length → ∃ p q, rl[j]? = some (shD p q) ∧ Sh K p q ∧ p * ws.sum = ws.getD j 0 * q
/-! ### the law's own coming -/
end Vm
namespace Vm
open PySem L2 PySem.Spec PyProof.Rows
section
variable {X : Cx} {ec : EC} {W : WX}
/-- a method without arguments of a list just made -/
def cMutN (f : List D → List D → Option (D × List D)) (co : CE) : CE := fun s => (co s).bind fun a s1 => match a with
  | .new (.l xs) => match f xs [] with
    | some (d, _) => .ok (.d d) s1
    | none => .bad
  | _ => .bad
end
@[simp] theorem cMutN_l {f : List D → List D → Option (D × List D)} {co : CE} {s s1 : S} {xs ys : List D} {d : D} (h : co s = .ok (.new (.l xs)) s1) (hf : f xs [] = some (d, ys)) : cMutN f co s = .ok (.d d) s1 := by
  unfold cMutN
  rw [h]
  show (match f xs [] with
    | some (d, _) => R.ok (Rv.d d) s1
    | none => .bad) = _
  rw [hf]
end Vm
namespace Vm
open PySem L2 PySem.Spec PyProof.Rows
/-! ### stands: numbers by boxes -/
def insS (k : List Int) (r : Nat) : List Int := k.set r (k.getD r 0 + 1)
/-! ### nets -/
structure Net where
  n : Nat
  ps : List (Nat × Nat)
  lf : Bool
/-- where the two halves of a pair go -/
def goal (lf : Bool) (k : List Int) (p : Nat × Nat) : Nat × Nat :=
  if k.getD p.1 0 < k.getD p.2 0 ∨ (k.getD p.1 0 = k.getD p.2 0 ∧ lf = true) then (p.1, p.1) else if k.getD p.2 0 < k.getD p.1 0 then (p.2, p.2) else p
def two (p : Nat × Nat) : List Nat := [p.1, p.2]
def goals (N : Net) (k : List Int) : List Nat := N.ps.flatMap fun p => two (goal N.lf k p)
def hv (N : Net) (k : List Int) : List Int := (goals N k).foldl insS (List.replicate N.n 0)
end Vm
namespace Vm
open PySem L2 PySem.Spec PyProof.Rows
/-! ### nets in which each box stands as often -/
structure Half (n j : Nat) (zs : List (Nat × Nat)) (xs : List Nat) : Prop where
  fst : zs.map (·.1) = List.range j
  prm : (zs.map (·.2) ++ xs).Perm (List.range n)
theorem Half.len {n j : Nat} {zs : List (Nat × Nat)} {xs : List Nat} (h : Half n j zs xs) : zs.length = j ∧ j + xs.length = n := by
  have h1 := congrArg List.length h.fst
  have h2 := h.prm.length_eq
  rw [List.length_map, List.length_range] at h1
  rw [List.length_append, List.length_map, List.length_range] at h2
  omega
theorem Half.lt {n j : Nat} {zs : List (Nat × Nat)} {xs : List Nat} (h : Half n j zs xs) : ∀ q, q ∈ zs → q.1 < n ∧ q.2 < n := fun q hq => by
  have l := h.len
  have h1 : q.1 ∈ zs.map (·.1) := List.mem_map_of_mem hq
  rw [h.fst, List.mem_range] at h1
  have h2 : q.2 ∈ zs.map (·.2) ++ xs := List.mem_append_left _ (List.mem_map_of_mem (f := (·.2)) hq)
  have h3 := List.mem_range.mp (h.prm.mem_iff.mp h2)
  exact ⟨by omega, h3⟩
end Vm
/-! Vm82: len(set(xs)) of a list of ints -/
/-! Vm83: repr of data with dicts anywhere, and of a dict with tuple keys -/
namespace Vm
open PySem L2 PySem.Spec PyProof.Rows
mutual
/-- a value reads as data, no dict is sys.modules -/
inductive RdS (h : Heap) : Value → PyData → Prop
  | none : RdS h .none .none
  | bool (b) : RdS h (.bool b) (.bool b)
  | int (i t) : RdS h (.int i t) (.int i)
  | str (x t) : RdS h (.str x t) (.str x)
  | list {a o vs n xs} : h.get? a = some o → o.cls = .type "list" → o.data = .seq vs n → RdSAll h vs.toList xs → RdS h (.ref a) (.list xs)
  | tuple {a o vs n xs} : h.get? a = some o → o.cls = .type "tuple" → o.data = .seq vs n → RdSAll h vs.toList xs → RdS h (.ref a) (.tuple xs)
  | dict {a o es n kvs} : h.get? a = some o → o.cls = .type "dict" → o.data = .dict es n → (a == sysModules) = false → RdSAll h (es.toList.map (·.key)) (kvs.map (·.1)) → RdSAll h (es.toList.map (·.val)) (kvs.map (·.2)) → RdS h (.ref a) (.dict kvs)
inductive RdSAll (h : Heap) : List Value → List PyData → Prop
  | nil : RdSAll h [] []
  | cons {v vs d ds} : RdS h v d → RdSAll h vs ds → RdSAll h (v :: vs) (d :: ds)
end
section
variable {prog : Program} {w : World} {h₀ : Heap}
mutual
theorem RdS.reads : ∀ {v : Value} {d : PyData}, RdS h₀ v d → ∃ as, Reads h₀ v d as
  | _, _, .none => ⟨_, .none⟩
  | _, _, .bool b => ⟨_, .bool b⟩
  | _, _, .int i t => ⟨_, .int i t⟩
  | _, _, .str x t => ⟨_, .str x t⟩
  | _, _, .list h1 h2 h3 h4 => let ⟨_, r⟩ := RdSAll.reads h4; ⟨_, .list h1 h2 h3 r⟩
  | _, _, .tuple h1 h2 h3 h4 => let ⟨_, r⟩ := RdSAll.reads h4; ⟨_, .tuple h1 h2 h3 r⟩
  | _, _, .dict h1 h2 h3 _ h4 h5 => let ⟨_, r⟩ := RdSAll.reads h4; let ⟨_, r2⟩ := RdSAll.reads h5; ⟨_, .dict h1 h2 h3 r r2⟩
theorem RdSAll.reads : ∀ {vs : List Value} {ds : List PyData}, RdSAll h₀ vs ds → ∃ as, ReadsAll h₀ vs ds as
  | _, _, .nil => ⟨_, .nil⟩
  | _, _, .cons a b => let ⟨_, r⟩ := RdS.reads a; let ⟨_, r2⟩ := RdSAll.reads b; ⟨_, .cons r r2⟩
end
mutual
theorem RdS.repr : ∀ {v : Value} {d : PyData}, RdS h₀ v d → d.showable = true → d.shown.length ≤ sizeLine → ∃ bs, ReadAtMost h₀ d.depth bs ∧ ReprK prog w bs h₀ d.depth v d.shown
  | _, _, .none, _, _ => ⟨[], (fun _ h => nomatch h), by simp only [PyData.shown]; exact .of_is ReprIs.none _ _ _⟩
  | _, _, .bool b, _, _ => ⟨[], (fun _ h => nomatch h), by simp only [PyData.shown]; exact .of_is (ReprIs.bool b) _ _ _⟩
  | _, _, .int i t, hs, _ => ⟨[], (fun _ h => nomatch h), by simp only [PyData.shown]; exact .of_is (ReprIs.int t (by simpa [PyData.showable] using hs)) _ _ _⟩
  | _, _, .str x t, _, hz => ⟨[], (fun _ h => nomatch h), by simp only [PyData.shown]; exact .of_is (ReprIs.str x t (by simpa only [PyData.shown] using hz)) _ _ _⟩
  | _, _, .list (a := a) (vs := vs) (xs := xs) h1 h2 h3 h4, hs, hz => by
    have hz' : (listText (PyData.shownAll xs)).length ≤ sizeLine := by simpa only [PyData.shown] using hz
    obtain ⟨bs, hb, hk⟩ := RdSAll.repr h4 (by simpa [PyData.showable] using hs) (fun t ht => Nat.le_trans (listText_mem_le ht) hz')
    obtain ⟨as, r0⟩ := RdSAll.reads h4
    have r : Reads h₀ (.ref a) (.list xs) _ := .list h1 h2 h3 r0
    have hna : a ∉ bs := not_mem_of_deeper r (by simp only [PyData.depth]; omega) hb
    refine ⟨a :: bs, ReadAtMost.cons r (by simp only [PyData.depth]; omega) hb, ?_⟩
    simp only [PyData.depth, PyData.shown]
    obtain ⟨l⟩ := vs
    cases l with
    | nil =>
      have h4' : RdSAll h₀ [] xs := h4
      cases h4'
      simp only [PyData.shownAll, listText_nil]
      exact ReprK.listEmpty h1 h2 h3
    | cons x l => exact ReprK.list h1 h2 h3 hna (by simpa using hk.length_eq) (fun i y e => hk.item i y (by simpa using e))
  | _, _, .tuple (a := a) (xs := xs) h1 h2 h3 h4, hs, hz => by
    have hz' : (tupleText (PyData.shownAll xs)).length ≤ sizeLine := by simpa only [PyData.shown] using hz
    obtain ⟨bs, hb, hk⟩ := RdSAll.repr h4 (by simpa [PyData.showable] using hs) (fun t ht => Nat.le_trans (tupleText_mem_le ht) hz')
    obtain ⟨as, r0⟩ := RdSAll.reads h4
    have r : Reads h₀ (.ref a) (.tuple xs) _ := .tuple h1 h2 h3 r0
    have hna : a ∉ bs := not_mem_of_deeper r (by simp only [PyData.depth]; omega) hb
    refine ⟨a :: bs, ReadAtMost.cons r (by simp only [PyData.depth]; omega) hb, ?_⟩
    simp only [PyData.depth, PyData.shown]
    exact ReprK.tuple h1 h2 h3 hna hk
  | _, _, .dict (a := a) (es := es) (kvs := kvs) h1 h2 h3 hsys h4 h5, hs, hz => by
    have hz' : (dictText (PyData.shownKv kvs)).length ≤ sizeLine := by simpa only [PyData.shown] using hz
    obtain ⟨hs1, hs2⟩ := PyData.showableKv_split kvs (by simpa [PyData.showable] using hs)
    obtain ⟨b1, hb1, k1⟩ := RdSAll.repr h4 hs1 (fun t ht => let ⟨p, hp, hl⟩ := PyData.shownKv_key_le kvs t ht; Nat.le_trans hl (Nat.le_trans (dictText_mem_le hp) hz'))
    obtain ⟨b2, hb2, k2⟩ := RdSAll.repr h5 hs2 (fun t ht => let ⟨p, hp, hl⟩ := PyData.shownKv_val_le kvs t ht; Nat.le_trans hl (Nat.le_trans (dictText_mem_le hp) hz'))
    obtain ⟨as1, r1⟩ := RdSAll.reads h4
    obtain ⟨as2, r2⟩ := RdSAll.reads h5
    have r : Reads h₀ (.ref a) (.dict kvs) _ := .dict h1 h2 h3 r1 r2
    have hb : ReadAtMost h₀ (PyData.depthKv kvs) (b1 ++ b2) := (hb1.mono (PyData.depthAll_keys_le kvs)).append (hb2.mono (PyData.depthAll_vals_le kvs))
    have hna : a ∉ b1 ++ b2 := not_mem_of_deeper r (by simp only [PyData.depth]; omega) hb
    refine ⟨a :: (b1 ++ b2), ReadAtMost.cons r (by simp only [PyData.depth]; omega) hb, ?_⟩
    simp only [PyData.depth, PyData.shown, PyData.shownKv_eq]
    exact ReprK.dict h1 h2 h3 hsys hna (ReprEntriesK.of_two es.toList _ _
      (k1.more_le (fun b hb => List.mem_append_left _ hb) (PyData.depthAll_keys_le kvs)) (k2.more_le (fun b hb => List.mem_append_right _ hb) (PyData.depthAll_vals_le kvs)))
theorem RdSAll.repr : ∀ {vs : List Value} {ds : List PyData}, RdSAll h₀ vs ds → PyData.showableAll ds = true → (∀ t ∈ PyData.shownAll ds, t.length ≤ sizeLine) →
    ∃ bs, ReadAtMost h₀ (PyData.depthAll ds) bs ∧ ReprAllK prog w bs h₀ (PyData.depthAll ds) vs (PyData.shownAll ds)
  | _, _, .nil, _, _ => ⟨[], (fun _ h => nomatch h), by simp only [PyData.shownAll]; exact .nil⟩
  | _, _, .cons (d := d) (ds := ds) r rs, hs, hz => by
    have hs' : d.showable = true ∧ PyData.showableAll ds = true := by simpa [PyData.showableAll] using hs
    obtain ⟨b1, hb1, k1⟩ := RdS.repr r hs'.1 (hz _ (by simp only [PyData.shownAll]; exact List.mem_cons_self ..))
    obtain ⟨b2, hb2, k2⟩ := RdSAll.repr rs hs'.2 (fun t ht => hz t (by simp only [PyData.shownAll]; exact List.mem_cons_of_mem _ ht))
    refine ⟨b1 ++ b2, ?_, ?_⟩
    · intro b hm
      simp only [PyData.depthAll]
      rcases List.mem_append.mp hm with hm | hm
      · obtain ⟨d', as', r', hd'⟩ := hb1 b hm
        exact ⟨d', as', r', Nat.le_trans hd' (Nat.le_max_left _ _)⟩
      · obtain ⟨d', as', r', hd'⟩ := hb2 b hm
        exact ⟨d', as', r', Nat.le_trans hd' (Nat.le_max_right _ _)⟩
    · simp only [PyData.depthAll, PyData.shownAll]
      exact .cons ((k1.more fun b hb => List.mem_append_left _ hb).level_le (Nat.le_max_left _ _)) (k2.more_le (fun b hb => List.mem_append_right _ hb) (Nat.le_max_right _ _))
end
variable {A : Around} {E : Value → Shared → Prop} {s : Shared} {Q : Value → Shared → Prop}
end
mutual
/-- no dict with tuple keys -/
def noTg : D → Bool
  | .none | .bool _ | .int _ | .str _ => true
  | .list xs => noTgAll xs
  | .tuple xs => noTgAll xs
  | .dict es => (match es with | (.list [], .none) :: _ => false | (.list [.none], .none) :: _ => false | (.list [.bool true], .none) :: _ => false | _ => true) && noTgKv es
def noTgAll : List D → Bool
  | [] => true
  | x :: xs => noTg x && noTgAll xs
def noTgKv : List (D × D) → Bool
  | [] => true
  | (_, v) :: r => noTg v && noTgKv r
end
/-- a dict with tuple keys is shown without its mark -/
def shX : D → D
  | .dict ((.list [], .none) :: es) => .dict es
  | d => d
def tgTop : D → Bool
  | .dict ((.list [], .none) :: es) => noTgKv es
  | d => noTg d
def okrX (d : D) : Bool := tgTop d && decide ((shX d).depth ≤ 60) && (shX d).showable && decide ((shX d).shown.length ≤ 16000000)
def opReprX : Od → Option Rv
  | .d d => if okrX d = true then some (.d (.str (shX d).shown)) else none
  | _ => none
end Vm
namespace Vm
open PySem L2 PySem.Spec PyProof.Rows
/-! ### a def under another global name -/
structure DefA (K : Fg) (mg : Str → Option Value) (x z : Str) (st : Stmt) (ps : List Str) : Prop where
  ex : ∃ f fd, Fun K z z st f fd ∧ mg x = some (.ref f) ∧ ∀ us : List Value, us.length = ps.length → bindArgs fd ⟨us, []⟩ = pure (ps.zip us)
section
variable {P : Program} {wo : World} {K : Fg} {mg : Str → Option Value} {base : Heap} {ec : EC} {x z : Str} {st : Stmt} {ps : List Str} {k : Nat} {f : Fn}
theorem DefA.cal (D : DefA K mg x z st ps) (h : ∀ {fa : Addr} {fd : FuncData}, Fun K z z st fa fd → FnG P wo K mg base k fa fd ps (spF K ec ps.length f)) : Cal P wo K mg base ec x ps f k := by
  obtain ⟨fa, fd, F, hm, hb⟩ := D.ex
  obtain ⟨oc, od, kV, doc, pm, an, cdv, ct, osl, e, lk, _⟩ := F.ex
  exact ⟨fa, fd, oc, od, osl, lk, h F, hm, F.kp, .all hb⟩
end
end Vm
namespace Vm
open PySem L2
/-! ### the order of loads: plain laws -/
theorem Maj.trans {xs ys zs : List Int} (h : Maj xs ys) (g : Maj ys zs) (hl : xs.length = ys.length) : Maj xs zs := fun k hk => Int.le_trans (h k hk) (g k (by omega))
/-! ### a move makes no fuller -/
/-! ### lists of moves, walked -/
theorem Leads.append : ∀ {qs rs : List (Nat × Nat)} {ys zs xs : List Int}, Leads qs ys zs → Leads rs zs xs → Leads (qs ++ rs) ys xs
  | [], rs, ys, zs, xs, h, g => by
    have h : ys = zs := h
    subst h
    exact g
  | q :: qs, rs, ys, zs, xs, ⟨h1, h2, h3, h4⟩, g => ⟨h1, h2, h3, h4.append g⟩
/-! ### all in one box, and all even -/
end Vm
namespace Vm
open PySem L2 PySem.Spec PyProof.Rows
/-! ### a def handed to a def that calls it -/
/-- the start in which a slot f holds the def at a -/
abbrev EC.fn (ec : EC) (a : Addr) : EC := { ec with lf := a }
theorem Mem.fn {ec : EC} {K : Fg} {w : Wd} {m : List Cell} (h : Mem ec K w m) (a : Addr) : Mem (ec.fn a) K w m :=
  ⟨h.ext, h.len, h.nd, h.cell, h.fo, h.tab, h.inv, h.gt, h.nv⟩
theorem Mem.unfn {ec : EC} {a : Addr} {K : Fg} {w : Wd} {m : List Cell} (h : Mem (ec.fn a) K w m) : Mem ec K w m :=
  ⟨h.ext, h.len, h.nd, h.cell, h.fo, h.tab, h.inv, h.gt, h.nv⟩
theorem ExcF.fn {K : Fg} {mg : Str → Option Value} {ec : EC} {x : Str} {n : String} (h : ExcF K mg ec x n) (a : Addr) : ExcF K mg (ec.fn a) x n := ⟨h.g, h.x, h.k, h.b, h.t⟩
theorem IsF.fn {K : Fg} {mg : Str → Option Value} {ec : EC} {x : Str} {n : String} (h : IsF K mg ec x n) (a : Addr) : IsF K mg (ec.fn a) x n := ⟨h.ex⟩
theorem CatF.fn {K : Fg} {mg : Str → Option Value} {ec : EC} {x : Str} {L : List String} (h : CatF K mg ec x L) (a : Addr) : CatF K mg (ec.fn a) x L := ⟨h.ex⟩
theorem args_fn {ec : EC} {a : Addr} {K : Fg} {w : Wd} {vs : List V} {as : List Sl} (h : ArgsOk ec K w vs as) : as.all Sl.isD = true → ArgsOk (ec.fn a) K w vs as := by
  induction h with
  | nil => exact fun _ => .nil
  | cons r t ih =>
    rename_i v sl vs as
    intro hd
    rw [List.all_cons, Bool.and_eq_true] at hd
    refine .cons ?_ (ih hd.2)
    cases sl with
    | d x => exact r
    | u => cases hd.1
    | c n => cases hd.1
    | t _ _ => cases hd.1
    | x n => cases hd.1
    | f => cases hd.1
    | f2 => cases hd.1
/-- data alone handed, our cells held back: the start for a callee of the like start -/
theorem mem_in {ec : EC} {K : Fg} {w1 : Wd} {σ : L2.St} {s : S} (hw : Bas ec.w) (r1 : Rel ec K w1 σ s) : Mem ec K ⟨w1.G, [], fun p => w1.F p ∨ (p ∈ w1.r ∧ w1.G p = none), w1.H⟩ [] := by
  refine ⟨r1.mem.ext, rfl, List.nodup_nil, fun n p c h _ => by simp at h, fun p hp => ?_, r1.mem.tab.f fun _ h => .inl h, hw.le r1.mem.inv.g r1.mem.ext rfl, r1.mem.gt, ⟨fun t q n j ds e1 => by simp at e1, fun p hp => hp.elim (fun hp => r1.mem.nv.2 p hp) fun hp => .inr (by obtain ⟨n, e⟩ := List.getElem?_of_mem hp.1; exact r1.liveT e hp.2)⟩⟩
  rcases hp with hp | hp
  · obtain ⟨a, b, c⟩ := r1.mem.fo p hp
    exact ⟨a, by simp, c⟩
  · exact ⟨hp.2, by simp, r1.live hp.1⟩
/-- what comes back of it -/
theorem back_of {ec : EC} {K : Fg} {W : WX} {σ : L2.St} {w w1 : Wd} {s1 : S} {rf : RF} {Q : VK} (le1 : Le w w1) (r1 : Rel ec K w1 σ s1) (h1 : Res (okV ec K w σ Q) (okE K ec W σ w) (rf.pure s1)) :
    FOk K ec Q (fun cls d H => W cls d σ H) ⟨w1.G, [], fun p => w1.F p ∨ (p ∈ w1.r ∧ w1.G p = none), w1.H⟩ rf := by
  cases rf with
  | bad => exact h1
  | ex n m' =>
    intro w2 le2 m2
    obtain ⟨r3, le3⟩ := mem_out r1 le2 m2
    exact h1 ⟨w2.G, w1.r, w1.F, w2.H⟩ (le1.trans le3) r3
  | ok a m' =>
    intro x w2 le2 m2 o fr
    obtain ⟨r3, le3⟩ := mem_out r1 le2 m2
    cases a with
    | ref n => exact h1.elim
    | t _ _ => exact h1.elim
    | d y => exact h1 x ⟨w2.G, w1.r, w1.F, w2.H⟩ (le1.trans le3) r3 o .d
    | new c =>
      obtain ⟨p, ex, ⟨hp1, hp2⟩, hc⟩ := o
      have hf : w1.H p = none := fr c rfl p ex
      have hnr : p ∉ w1.r := fun hm => by
        obtain ⟨o, ho⟩ := r1.live hm
        rw [hf] at ho
        cases ho
      have hnF : ¬ w1.F p := fun hF => hp2 (by rw [le2.s]; exact .inl hF)
      have o3 : RvOk K ⟨w2.G, w1.r, w1.F, w2.H⟩ x (.new c) := ⟨p, ex, ⟨hnr, hnF⟩, hc⟩
      have f3 : FrR w1 x (.new c) := fun c' ec p' ep => fr c' ec p' ep
      exact h1 x ⟨w2.G, w1.r, w1.F, w2.H⟩ (le1.trans le3) r3 o3 (FrR.back le1 le3 o3 f3)
theorem FOk.fn {K : Fg} {ec : EC} {a : Addr} {Q : VK} {E : XK} {w : Wd} {rf : RF} (h : FOk K ec Q E w rf) : FOk K (ec.fn a) Q E w rf := by
  cases rf with
  | bad => exact h
  | ex n m' => exact fun w2 le2 m2 => h w2 le2 m2.unfn
  | ok x m' => exact fun y w2 le2 m2 o fr => h y w2 le2 m2.unfn o fr
theorem FOk.unfn {K : Fg} {ec : EC} {a : Addr} {Q : VK} {E : XK} {w : Wd} {rf : RF} (h : FOk K (ec.fn a) Q E w rf) : FOk K ec Q E w rf := by
  cases rf with
  | bad => exact h
  | ex n m' => exact fun w2 le2 m2 => h w2 le2 (m2.fn a)
  | ok x m' => exact fun y w2 le2 m2 o fr => h y w2 le2 (m2.fn a) o fr
def cCallFn (f : Fn) (cl : CL) : CE := fun s => (cl s).bind fun as s1 => if as.all Sl.isD = true then (f (.f :: as) []).pure s1 else .bad
/-- a name that holds a def is asked -/
def cAskF (i : Nat) (f : Fn) (cl : CL) : CE := fun s => match s.v[i]? with
  | some .f => cCallP f cl s
  | _ => .bad
section
variable {X : Cx} {ec : EC} {W : WX}
theorem e_callFn {k n : Nat} {fa : Addr} {ps : List Str} {f : Fn} {x y : Str} {p p2 pos : Pos} {e : Expr} {es : List Expr} {cl : CL} (C : Cal X.prog X.w X.K X.mg X.base (ec.fn fa) x ps f k) (hy : X.mg y = some (.ref fa)) (hr : Rg k X.A)
    (tk : Takes X W) (ha : PA X (e :: es) (rdL X.K ec W cl)) (hl : LLen n cl) (hn : ps.length = n + 1 := by rfl) (hg : Gl X x := by rfl) (hgy : Gl X y := by rfl) (hdb : (x == ("__debug__" : Str)) = false := by decide) (hdy : (y == ("__debug__" : Str)) = false := by decide)
    (he : starEach (.Name y p2 :: e :: es) X.env = (false, eval (.Name y p2) X.env) :: starEach (e :: es) X.env := by rfl)
    (hpl : (backTo pos (starEach (e :: es) X.env)).any (·.1) = false := by rfl) (hw : Bas ec.w := by assumption) : Ex X ec W (.Call (.Name x p) (.Name y p2 :: e :: es) [] pos) (cCallFn f cl) := by
  obtain ⟨fa', fd, oc, od, osl, lk, F, hm, hk, hb⟩ := C
  exact (pe_callG F hr hg hm hk hb (fun σ => passAt tk σ) (pa_cons (pe_glob hgy hy (v := .ref fa) rfl hdy) ha he) hdb he hpl).imp fun σ H Q h => by
    obtain ⟨w, s, rfl, hr, h⟩ := h
    refine ⟨w, s, rfl, hr, ?_⟩
    unfold cCallFn at h
    cases e1 : cl s with
    | bad => rw [e1] at h; exact h
    | ex n s' => rw [e1] at h; exact h
    | ok as s1 =>
      rw [e1] at h
      intro vs w1 le1 r1 ao
      have h1 : Res (okV ec X.K w σ Q) (okE X.K ec W σ w) (if as.all Sl.isD = true then (f (.f :: as) []).pure s1 else .bad) := h
      by_cases hd : as.all Sl.isD = true
      · rw [if_pos hd] at h1
        refine ⟨by rw [List.length_cons, paired_len ao, hl _ _ _ e1, hn], ⟨w1.G, [], fun p => w1.F p ∨ (p ∈ w1.r ∧ w1.G p = none), w1.H⟩, [], .f :: as, rfl, (mem_in hw r1).fn fa, .cons rfl (args_fn (args_data (w := w1) (w' := ⟨w1.G, [], fun p => w1.F p ∨ (p ∈ w1.r ∧ w1.G p = none), w1.H⟩) rfl ao hd) hd), (back_of le1 r1 h1).fn⟩
      · rw [if_neg hd] at h1
        exact h1.elim
theorem e_ask {k i : Nat} {fa : Addr} {ps : List Str} {f : Fn} {x a : Str} {p pos : Pos} {e : Expr} {es : List Expr} {cl : CL} (C : Cal X.prog X.w X.K X.mg X.base ec x ps f k) (hfa : X.mg x = some (.ref fa)) (hr : Rg k X.A)
    (tk : Takes X W) (ha : PA X (e :: es) (rdL X.K (ec.fn fa) W cl)) (hl : LLen ps.length cl) (hN : X.N[i]? = some a := by rfl) (hv : Vis X.env.scope a := by first | exact Or.inl rfl | exact Or.inr (Or.inl rfl) | exact Or.inr (Or.inr rfl)) (hd : (a == ("__debug__" : Str)) = false := by decide)
    (hcd : (a == ("__classdict__" : Str)) = false := by decide) (he : starEach (e :: es) X.env = (false, eval e X.env) :: starEach es X.env := by rfl)
    (hpl : (backTo pos (starEach es X.env)).any (·.1) = false := by rfl) (hw : Bas ec.w := by assumption) : Ex X (ec.fn fa) W (.Call (.Name a p) (e :: es) [] pos) (cAskF i f cl) := by
  obtain ⟨fa', fd, oc, od, osl, lk, F, hm, hk, hb⟩ := C
  have efa : fa' = fa := by
    rw [hfa] at hm
    cases hm
    rfl
  subst efa
  constructor
  intro pins s σ H Q I h
  obtain ⟨w, s0, rfl, hrel, h⟩ := h
  unfold cAskF at h
  split at h
  rotate_left
  · exact h.elim
  rename_i hs
  have hσ : σ[i]? = some (some (.ref fa')) := hrel.slot i _ hs
  refine wpAny_Call_Name_kw (thn ((pe_var (X := X) (pos := p) (i := i) hN hv hd hcd).run pins s σ w.H (fun v H1 => v = .ref fa' ∧ H1 = w.H) I ⟨.ref fa', hσ, rfl, rfl⟩) fun u s1 ⟨v, H1, I1, r1, q1⟩ => ?_)
  obtain ⟨ev, eH⟩ := q1
  subst ev
  rw [eH] at I1
  obtain rfl : u = Value.ref fa' := r1
  refine PySem.W.callWith_K (h₀ := X.base) I1.ok.mod.kin hk (thn (ha.run pos pins s1 σ w.H (fun vs H2 => spF X.K ec ps.length f vs H2 Q (fun cls d H' => W cls d σ H')) I1 ?_) fun us s2 ⟨vs, H2, J2, rv, q⟩ => ⟨J2.kIn, run_fnG F hr hb (passAt tk σ) J2 rv q⟩) he hpl
  refine ⟨w, s0, rfl, hrel, ?_⟩
  unfold cCallP at h
  cases e1 : cl s0 with
  | bad => rw [e1] at h; exact h
  | ex n s' => rw [e1] at h; exact h
  | ok as s1' =>
    rw [e1] at h
    intro vs w1 le1 r1' ao
    have h1 : Res (okV (ec.fn fa') X.K w σ Q) (okE X.K (ec.fn fa') W σ w) (if as.all Sl.isD = true then (f as []).pure s1' else .bad) := h
    by_cases hdd : as.all Sl.isD = true
    · rw [if_pos hdd] at h1
      have hw2 : Bas (ec.fn fa').w := hw
      refine ⟨by rw [paired_len ao]; exact hl _ _ _ e1, ⟨w1.G, [], fun p => w1.F p ∨ (p ∈ w1.r ∧ w1.G p = none), w1.H⟩, [], as, rfl, (mem_in hw2 r1').unfn, ?_, (back_of le1 r1' h1).unfn⟩
      exact args_fn (ec := ec.fn fa') (a := ec.lf) (args_data (w := w1) (w' := ⟨w1.G, [], fun p => w1.F p ∨ (p ∈ w1.r ∧ w1.G p = none), w1.H⟩) rfl ao hdd) hdd
    · rw [if_neg hdd] at h1
      exact h1.elim
end
end Vm
namespace Vm
open PySem L2 PySem.Spec PyProof.Rows
/-! ### rules beside one another; whole numbers drawn (D), some moved behind, their rule -/
/-- rules told by rationals -/
structure Rt (K n : Nat) (ds : List D) (xs : List Rat) : Prop where
  len : ds.length = n
  xlen : xs.length = n
  tell : ∀ (i : Nat) (d : D) (x : Rat), ds[i]? = some d → xs[i]? = some x → Tell K d x
theorem isum_le {ws : List Int} {b : Int} (h : ∀ w, w ∈ ws → w ≤ b) : ws.sum ≤ ws.length * b := by
  induction ws with
  | nil => simp
  | cons w ws ih =>
    have h1 := h w (List.mem_cons_self ..)
    have h2 := ih fun x hx => h x (List.mem_cons_of_mem _ hx)
    rw [List.sum_cons, List.length_cons, Int.natCast_add, Int.add_mul]
    omega
end Vm
namespace Vm
open PySem L2 PySem.Spec PyProof.Rows
/-! ### mixtures by first sums; the shares of whole numbers -/
theorem Rt.mono {j k n : Nat} {ds : List D} {xs : List Rat} (h : Rt j n ds xs) (q : j ≤ k) : Rt k n ds xs := ⟨h.len, h.xlen, fun i d x a b => (h.tell i d x a b).mono q⟩
end Vm
namespace Vm
open PySem L2 PySem.Spec PyProof.Rows
/-! ### mixtures of rules of unlike many bits -/
theorem IsRl.rt {k n : Nat} {ds : List D} (h : IsRl k n ds) : Rt k n ds (ds.map ratD) := ⟨h.1, by rw [List.length_map]; exact h.1, fun i d x hd hx => by
  rw [List.getElem?_map, hd] at hx
  cases hx
  exact (h.tell (List.mem_of_getElem? hd)).1⟩
theorem IsRl.ge {k n : Nat} {ds : List D} (h : IsRl k n ds) : ∀ x, x ∈ ds.map ratD → 0 ≤ x := fun x hx => by
  obtain ⟨d, hd, rfl⟩ := List.mem_map.mp hx
  exact (h.tell hd).2
end Vm
namespace Vm
open PySem L2 PySem.Spec PyProof.Rows
/-! ### tuples and lists whose elements are data or cells: the object never changes, its cells may -/
/-! ### argument lists whose lists stay cells -/
abbrev CAN := S → R (List El)
def nNil : CAN := fun s => .ok [] s
def nCons (c : CE) (ca : CAN) : CAN := fun s => (c s).bind fun a s1 => match a with
  | .d x => (ca s1).bind fun r s2 => .ok (.d x :: r) s2
  | .ref n => (ca s1).bind fun r s2 => .ok (.c n :: r) s2
  | .new (.l ds) => (ca ⟨s1.v, s1.m ++ [.l ds]⟩).bind fun r s2 => .ok (.c s1.m.length :: r) s2
  | _ => .bad
section
variable {X : Cx} {ec : EC} {W : WX}
def cTupN (ca : CAN) : CE := fun s => (ca s).bind fun es s1 => .ok (.t true es) s1
/-! ### items of them -/
def elV (es : List El) (k : Int) (s : S) : R Rv := match L2.ixN es.length k with
  | some j => match es[j]? with
    | some (.d x) => .ok (.d x) s
    | some (.c n) => .ok (.ref n) s
    | none => .bad
  | none => .bad
def kIxT (o : Rv) (i : Rv) (s2 : S) : R Rv := match o, i with
  | .t _ es, .d (.int k) => elV es k s2
  | o, i => opt (o.od s2.m) fun o => opt (i.od s2.m) fun o' => opt (opIx o o') fun rv => .ok rv s2
def cIxT (co ci : CE) : CE := fun s => (cv co s).bind fun o s1 => (cv ci s1).bind fun i s2 => kIxT o i s2
/-! ### read as data -/
def elsD (m : List Cell) : List El → Option (List D)
  | [] => some []
  | .d x :: r => match elsD m r with
    | some ds => some (x :: ds)
    | none => none
  | .c k :: r => match m[k]? with
    | some (.l ls) => match elsD m r with
      | some ds => some (.list ls :: ds)
      | none => none
    | _ => none
def outD : Bool → List D → D
  | true, ds => .tuple ds
  | false, ds => .list ds
/-- repr of such a thing, or of data -/
def kReprT (o : Rv) (s : S) : R Rv := match o with
  | .t b es => opt (elsD s.m es) fun ds => if okrX (outD b ds) = true then .ok (.d (.str (shX (outD b ds)).shown)) s else .bad
  | o => opt (o.od s.m) fun o => opt (opReprX o) fun rv => .ok rv s
def cReprT (c : CE) : CE := fun s => (cv c s).bind kReprT
/-! ### read for the last time, it becomes data -/
end
/-! ### comprehensions whose turns make lists: a table -/
end Vm
namespace Vm
open PySem L2
/-! ### steps of things whose elements are data or cells, for simp -/
def kIx1 (ci : CE) (o : Rv) (s1 : S) : R Rv := (cv ci s1).bind (kIxT o)
@[simp] theorem kIx1_s {ci : CE} {o : Rv} {s1 : S} : kIx1 ci o s1 = (cv ci s1).bind (kIxT o) := Eq.trans rfl rfl
@[simp] theorem cIxT_s {co ci : CE} {s : S} : cIxT co ci s = (cv co s).bind (kIx1 ci) := Eq.trans rfl rfl
@[simp] theorem kIxT_t {b : Bool} {es : List El} {k : Int} {s : S} : kIxT (.t b es) (.d (.int k)) s = elV es k s := Eq.trans rfl rfl
@[simp] theorem nNil_s {s : S} : nNil s = .ok [] s := Eq.trans rfl rfl
def kNc (e : El) (r : List El) (s2 : S) : R (List El) := .ok (e :: r) s2
@[simp] theorem kNc_s {e : El} {r : List El} {s2 : S} : kNc e r s2 = .ok (e :: r) s2 := Eq.trans rfl rfl
def nconsR (ca : CAN) : Rv → S → R (List El)
  | .d x, s1 => (ca s1).bind (kNc (.d x))
  | .ref n, s1 => (ca s1).bind (kNc (.c n))
  | .new (.l ds), s1 => (ca ⟨s1.v, s1.m ++ [.l ds]⟩).bind (kNc (.c s1.m.length))
  | _, _ => .bad
@[simp] theorem nconsR_d {ca : CAN} {x : D} {s1 : S} : nconsR ca (.d x) s1 = (ca s1).bind (kNc (.d x)) := Eq.trans rfl rfl
@[simp] theorem nconsR_r {ca : CAN} {n : Nat} {s1 : S} : nconsR ca (.ref n) s1 = (ca s1).bind (kNc (.c n)) := Eq.trans rfl rfl
@[simp] theorem nconsR_l {ca : CAN} {ds : List D} {s1 : S} : nconsR ca (.new (.l ds)) s1 = (ca ⟨s1.v, s1.m ++ [.l ds]⟩).bind (kNc (.c s1.m.length)) := Eq.trans rfl rfl
@[simp] theorem nCons_s {c : CE} {ca : CAN} {s : S} : nCons c ca s = (c s).bind (nconsR ca) := by
  unfold nCons
  congr 1
  funext a s1
  cases a with
  | d x => rfl
  | ref n => rfl
  | t _ _ => rfl
  | new c => cases c <;> rfl
def kTn (es : List El) (s1 : S) : R Rv := .ok (.t true es) s1
@[simp] theorem kTn_s {es : List El} {s1 : S} : kTn es s1 = .ok (.t true es) s1 := Eq.trans rfl rfl
@[simp] theorem cTupN_s {ca : CAN} {s : S} : cTupN ca s = (ca s).bind kTn := Eq.trans rfl rfl
@[simp] theorem cReprT_s {c : CE} {s : S} : cReprT c s = (cv c s).bind kReprT := Eq.trans rfl rfl
end Vm
namespace Vm
open PySem L2 PySem.Spec PyProof.Rows
/-! ### pairings: two rules gone through from the fullest box on, in whole numbers -/
/-- a rule over the bottom M -/
structure IR (K : Nat) (M : Int) (n : Nat) (ds : List D) (us : List Int) : Prop where
  len : ds.length = n
  ulen : us.length = n
  ge : ∀ u, u ∈ us → 0 ≤ u
  sum : us.sum = M
  m1 : 1 ≤ M
  bM : Bs K M
  tell : ∀ (i : Nat) (d : D) (u : Int), ds[i]? = some d → us[i]? = some u → Tell K d ((u : Rat) / (M : Rat))
theorem IR.rt {K n : Nat} {M : Int} {ds : List D} {us : List Int} (h : IR K M n ds us) : Rt K n ds (us.map fun u : Int => (u : Rat) / (M : Rat)) := ⟨h.len, by rw [List.length_map]; exact h.ulen, fun i d x hd hx => by
  rw [List.getElem?_map] at hx
  obtain ⟨u, hu, rfl⟩ := Option.map_eq_some_iff.mp hx
  exact h.tell i d u hd hu⟩
def rs (n : Nat) (f : Nat → Int) : Int := ((List.range n).map f).sum
theorem rs_congr {n : Nat} {f g : Nat → Int} (h : ∀ a, a < n → f a = g a) : rs n f = rs n g := by
  unfold rs
  rw [List.map_congr_left fun a ha => h a (List.mem_range.mp ha)]
theorem rs_succ {n : Nat} {f : Nat → Int} : rs (n + 1) f = rs n f + f n := by
  unfold rs
  rw [List.range_succ, List.map_append, List.sum_append]
  simp
theorem rs_upd {f : Nat → Int} {j : Nat} {p : Int} : ∀ n : Nat, rs n (fun b => if b = j then f b + p else f b) = rs n f + if j < n then p else 0
  | 0 => by simp [rs]
  | n + 1 => by
    rw [rs_succ, rs_succ, rs_upd n]
    by_cases h : n = j
    · subst h
      simp
      omega
    · by_cases h2 : j < n
      · simp [h, h2, Nat.lt_succ_of_lt h2]
        omega
      · have h3 : ¬ j < n + 1 := by omega
        simp [h, h2, h3]
theorem rs_zero {n : Nat} {f : Nat → Int} (h : ∀ a, a < n → f a = 0) : rs n f = 0 := by
  induction n with
  | zero => rfl
  | succ n ih => rw [rs_succ, ih fun a ha => h a (by omega), h n (by omega)]; rfl
def bump (R : Nat → Nat → Int) (i j : Nat) (p : Int) : Nat → Nat → Int := fun a b => if a = i ∧ b = j then R a b + p else R a b
/-- the two rules in whole numbers, the one no fuller -/
structure Two (n : Nat) (us vs : List Int) : Prop where
  ul : us.length = n
  vl : vs.length = n
  u0 : ∀ u, u ∈ us → 0 ≤ u
  v0 : ∀ u, u ∈ vs → 0 ≤ u
  sum : us.sum = vs.sum
  dom : ∀ k, k ≤ n → (us.take k).sum ≤ (vs.take k).sum
structure PI (n : Nat) (us vs : List Int) (i j : Nat) (h t : Int) (R : Nat → Nat → Int) : Prop where
  il : i < n
  jl : j < n
  eq : (us.take (i + 1)).sum - h = (vs.take (j + 1)).sum - t
  h0 : 0 ≤ h
  h1 : h ≤ us.getD i 0
  t0 : 0 ≤ t
  t1 : t ≤ vs.getD j 0
  row : ∀ a, a < n → rs n (R a) = if a < i then us.getD a 0 else if a = i then us.getD i 0 - h else 0
  col : ∀ b, b < n → rs n (fun a => R a b) = if b < j then vs.getD b 0 else if b = j then vs.getD j 0 - t else 0
  ge : ∀ a b, 0 ≤ R a b
  sup : ∀ a b, b < n → a < b → R a b = 0
section
variable {n : Nat} {us vs : List Int} {i j : Nat} {h t : Int} {R : Nat → Nat → Int}
theorem getD_ge {xs : List Int} (h : ∀ x, x ∈ xs → 0 ≤ x) (i : Nat) : 0 ≤ xs.getD i 0 := by
  by_cases hi : i < xs.length
  · rw [getD_get hi]
    exact h _ (List.getElem_mem hi)
  · rw [List.getD_eq_getElem?_getD, List.getElem?_eq_none (by omega)]
    exact Int.le_refl _
theorem bump_row (hj : j < n) (a : Nat) {p : Int} : rs n (bump R i j p a) = rs n (R a) + if a = i then p else 0 := by
  by_cases ha : a = i
  · rw [if_pos ha]
    have := rs_upd (f := R a) (j := j) (p := p) n
    rw [if_pos hj] at this
    rw [← this]
    exact rs_congr fun b _ => by
      unfold bump
      simp [ha]
  · rw [if_neg ha, Int.add_zero]
    exact rs_congr fun b _ => by
      unfold bump
      simp [ha]
theorem bump_col (hi : i < n) (b : Nat) {p : Int} : rs n (fun a => bump R i j p a b) = rs n (fun a => R a b) + if b = j then p else 0 := by
  by_cases hb : b = j
  · rw [if_pos hb]
    have := rs_upd (f := fun a => R a b) (j := i) (p := p) n
    rw [if_pos hi] at this
    rw [← this]
    exact rs_congr fun a _ => by
      unfold bump
      simp [hb]
  · rw [if_neg hb, Int.add_zero]
    exact rs_congr fun a _ => by
      unfold bump
      simp [hb]
theorem PI.start (T : Two n us vs) (hn : 0 < n) : PI n us vs 0 0 (us.getD 0 0) (vs.getD 0 0) (fun _ _ => 0) := by
  have h4 := sum_takeD (xs := us) (i := 0) (by rw [T.ul]; omega)
  have h5 := sum_takeD (xs := vs) (i := 0) (by rw [T.vl]; omega)
  have h6 := getD_ge T.u0 0
  have h7 := getD_ge T.v0 0
  rw [List.take_zero, List.sum_nil] at h4 h5
  refine ⟨hn, hn, by omega, h6, Int.le_refl _, h7, Int.le_refl _, fun a ha => ?_, fun b hb => ?_, fun _ _ => Int.le_refl _, fun _ _ _ _ => rfl⟩
  · rw [rs_zero fun _ _ => rfl, if_neg (by omega)]
    split <;> omega
  · rw [rs_zero fun _ _ => rfl, if_neg (by omega)]
    split <;> omega
end
end Vm
namespace Vm
open PySem L2 PySem.Spec PyProof.Rows
/-! ### the pairing told: the walk -/
theorem IR.at {K n : Nat} {M : Int} {ds : List D} {us : List Int} (h : IR K M n ds us) {i : Nat} (hi : i < n) : ∃ d, opIx (.d (.tuple ds)) (.d (.int (i : Nat))) = some (.d d) ∧ ds[i]? = some d ∧ Tell K d ((us.getD i 0 : Int) / (M : Rat)) := by
  have hl := h.len
  have hu := h.ulen
  have g : ds[i]? = some (ds[i]'(by omega)) := List.getElem?_eq_getElem (by omega)
  refine ⟨ds[i]'(by omega), opIx_t (atI_nat (by omega) (by rw [Int.toNat_natCast]; exact g)), g, ?_⟩
  rw [getD_get (by omega)]
  exact h.tell i _ _ g (List.getElem?_eq_getElem (by omega))
theorem IR.le {K n : Nat} {M : Int} {ds : List D} {us : List Int} (h : IR K M n ds us) (i : Nat) : 0 ≤ us.getD i 0 ∧ us.getD i 0 ≤ M := by
  refine ⟨getD_ge h.ge i, ?_⟩
  by_cases hi : i < us.length
  · rw [getD_get hi, ← h.sum]
    exact mem_le_sum h.ge _ (List.getElem_mem hi)
  · rw [List.getD_eq_getElem?_getD, List.getElem?_eq_none (by omega)]
    have := h.m1
    show (0 : Int) ≤ M
    omega
/-- the rows of a table -/
abbrev rwT (n : Nat) (τ : Nat → Nat → D) (a : Nat) : List D := (List.range n).map (τ a)
end Vm
namespace Vm
open PySem L2 PySem.Spec PyProof.Rows
/-! ### the pairing told; what is a pairing -/
abbrev tbD (n : Nat) (τ : Nat → Nat → D) : D := .tuple ((List.range n).map fun a => .tuple (rwT n τ a))
/-! ### any thing -/
def partB : D → Bool
  | .tuple [.int p, .int q] => decide (0 < q ∧ Int.gcd p q = 1 ∧ 0 ≤ p)
  | _ => false
def cell (d : D) (a b : Nat) : D := match d with
  | .tuple rows => match rows.getD a .none with
    | .tuple ps => ps.getD b .none
    | _ => .none
  | _ => .none
end Vm
namespace Vm
open PySem L2 PySem.Spec PyProof.Rows
/-! ### whether a thing pairs two rules -/
structure TabIs (K n : Nat) (d : D) (τ : Nat → Nat → D) : Prop where
  e : d = tbD n τ
  c : τ = cell d
  t : ∀ a b, a < n → b < n → Tell K (τ a b) (ratD (τ a b))
  sh : ∀ a b, a < n → b < n → partB (τ a b) = true
section
variable {K n : Nat} {d : D} {τ : Nat → Nat → D}
theorem TabIs.row (T : TabIs K n d τ) {i : Nat} (hi : i < n) : opIx (.d d) (.d (.int (i : Nat))) = some (.d (.tuple (rwT n τ i))) := by
  rw [T.e]
  exact opIx_t (atI_nat (by omega) (by rw [Int.toNat_natCast]; simp [hi]))
end
end Vm
namespace Vm
open PySem L2 PySem.Spec PyProof.Rows
/-! ### rules drawn, over whole bottoms -/
/-- a pair of rules over one bottom -/
structure PairQ (q : List D × List D) : Prop where
  ex : ∃ n N us vs, 1 ≤ n ∧ n ≤ 12 ∧ IR 40 N n q.1 us ∧ IR 40 N n q.2 vs
theorem PairQ.swap {q : List D × List D} (h : PairQ q) : PairQ (q.2, q.1) := by
  obtain ⟨n, N, us, vs, a, b, c, d⟩ := h.ex
  exact ⟨n, N, vs, us, a, b, d, c⟩
/-! ### the pairing told passes -/
end Vm
namespace Vm
open PySem L2 PySem.Spec PyProof.Rows
/-! ### rules drawn (C) by whole weights -/
structure RuW (n : Nat) (ds : List D) : Prop where
  ex : ∃ ws : List Int, ws.length = n ∧ RlW 45 ws ds ∧ ws.sum ≤ 2000
theorem rs_tel {f : Nat → Int} : ∀ n : Nat, rs n (fun i => f (i + 1) - f i) = f n - f 0
  | 0 => by simp [rs]
  | n + 1 => by
    rw [rs_succ, rs_tel n]
    omega
theorem RuW.ofRange {n : Nat} {ds : List D} {w : Nat → Int} {S : Int} (n1 : 1 ≤ n) (hl : ds.length = n) (h0 : ∀ a, a < n → 0 ≤ w a) (hs : rs n w = S) (s1 : 1 ≤ S) (s2 : S ≤ 2000) (h : ∀ j, j < n → ∃ p q, ds[j]? = some (shD p q) ∧ Sh 45 p q ∧ p * S = w j * q) : RuW n ds := by
  have hs' : ((List.range n).map w).sum = S := hs
  refine ⟨(List.range n).map w, by simp, ⟨by simp [hl], fun x hx => ?_, by omega, fun j hj => ?_⟩, by omega⟩
  · obtain ⟨a, ha, rfl⟩ := List.mem_map.mp hx
    exact h0 a (List.mem_range.mp ha)
  · have hj : j < n := by simpa using hj
    obtain ⟨p, q, h1, h2, h3⟩ := h j hj
    refine ⟨p, q, h1, h2, ?_⟩
    rw [hs', getD_get (by simp [hj])]
    simp
    exact h3
theorem RuW.ofList {n : Nat} {ds : List D} {ws : List Int} (hl : ds.length = n) (hw : ws.length = n) (h0 : ∀ x, x ∈ ws → 0 ≤ x) (s1 : 1 ≤ ws.sum) (s2 : ws.sum ≤ 2000) (h : ∀ j, j < n → ∃ p q, ds[j]? = some (shD p q) ∧ Sh 45 p q ∧ p * ws.sum = ws.getD j 0 * q) : RuW n ds :=
  ⟨ws, hw, ⟨by omega, h0, s1, fun j hj => h j (by omega)⟩, s2⟩
theorem lc_shG {α : Type} {K : Nat} {S : Int} {own : List Nat} {ci : CI} {tg : Tg} {el : CE} {s s1 : Vm.S} {xs : List α} {F : α → D} {w : α → Int} (h : ci s = .ok (xs.map F) s1) (hn : xs.length ≤ 1000)
    (hb : ∀ x, x ∈ xs → ∃ t, tg (F x) ⟨wipeV s1.v own, s1.m⟩ = some t ∧ ∃ p q v3, cv el t = .ok (.d (shD p q)) ⟨v3, s1.m⟩ ∧ Sh K p q ∧ p * S = w x * q) :
    ∃ G : α → D, cLc own ci tg ctYes el s = .ok (.new (.l (xs.map G))) s1 ∧ ∀ x, x ∈ xs → ∃ p q, G x = shD p q ∧ Sh K p q ∧ p * S = w x * q := by
  have ch : ∀ x : α, ∃ d : D, x ∈ xs → ∃ t, tg (F x) ⟨wipeV s1.v own, s1.m⟩ = some t ∧ ∃ p q v3, cv el t = .ok (.d d) ⟨v3, s1.m⟩ ∧ d = shD p q ∧ Sh K p q ∧ p * S = w x * q := fun x => by
    by_cases hx : x ∈ xs
    · obtain ⟨t, h1, p, q, v3, h2, h3, h4⟩ := hb x hx
      exact ⟨shD p q, fun _ => ⟨t, h1, p, q, v3, h2, rfl, h3, h4⟩⟩
    · exact ⟨.none, fun z => absurd z hx⟩
  obtain ⟨G, hG⟩ := Classical.axiomOfChoice ch
  refine ⟨G, lc_for G h (by omega) fun x hx => ?_, fun x hx => ?_⟩
  · obtain ⟨t, h1, p, q, v3, h2, _⟩ := hG x hx
    exact ⟨t, h1, v3, h2⟩
  · obtain ⟨t, h1, p, q, v3, _, h2⟩ := hG x hx
    exact ⟨p, q, h2⟩
theorem lc_sh {K n : Nat} {S : Int} {own : List Nat} {ci : CI} {tg : Tg} {el : CE} {s s1 : Vm.S} {w : Nat → Int} (h : ci s = .ok ((List.range n).map fun i : Nat => PyData.int (i : Int)) s1) (hn : n ≤ 1000)
    (hb : ∀ i, i < n → ∃ t, tg (.int (i : Nat)) ⟨wipeV s1.v own, s1.m⟩ = some t ∧ ∃ p q v3, cv el t = .ok (.d (shD p q)) ⟨v3, s1.m⟩ ∧ Sh K p q ∧ p * S = w i * q) :
    ∃ ds, cLc own ci tg ctYes el s = .ok (.new (.l ds)) s1 ∧ ds.length = n ∧ ∀ j, j < n → ∃ p q, ds[j]? = some (shD p q) ∧ Sh K p q ∧ p * S = w j * q := by
  obtain ⟨G, e, hG⟩ := lc_shG (w := w) h (by simp; omega) fun i hi => hb i (List.mem_range.mp hi)
  refine ⟨_, e, by simp, fun j hj => ?_⟩
  obtain ⟨p, q, h1, h2⟩ := hG j (List.mem_range.mpr hj)
  exact ⟨p, q, by simp [hj, h1], h2⟩
theorem lc_shL {K : Nat} {S : Int} {own : List Nat} {ci : CI} {tg : Tg} {el : CE} {s s1 : Vm.S} {zs : List Int} (h : ci s = .ok (zs.map PyData.int) s1) (hn : zs.length ≤ 1000)
    (hb : ∀ z, z ∈ zs → ∃ t, tg (.int z) ⟨wipeV s1.v own, s1.m⟩ = some t ∧ ∃ p q v3, cv el t = .ok (.d (shD p q)) ⟨v3, s1.m⟩ ∧ Sh K p q ∧ p * S = z * q) :
    ∃ ds, cLc own ci tg ctYes el s = .ok (.new (.l ds)) s1 ∧ ds.length = zs.length ∧ ∀ j, j < zs.length → ∃ p q, ds[j]? = some (shD p q) ∧ Sh K p q ∧ p * S = zs.getD j 0 * q := by
  obtain ⟨G, e, hG⟩ := lc_shG (w := id) h hn hb
  refine ⟨_, e, by simp, fun j hj => ?_⟩
  obtain ⟨p, q, h1, h2⟩ := hG zs[j] (List.getElem_mem hj)
  rw [getD_get hj]
  exact ⟨p, q, by simp [hj, h1], h2⟩
theorem ends {cs : List Int} {n : Nat} {b : Int} (cl : cs.length = n + 1) (pw : cs.Pairwise (· ≤ ·)) (m0 : 0 ∈ cs) (mb : b ∈ cs) (cb : ∀ c, c ∈ cs → 0 ≤ c ∧ c ≤ b) : cs.getD n 0 - cs.getD 0 0 = b := by
  rw [getD_get (show n < cs.length by omega), getD_get (show 0 < cs.length by omega)]
  have e0 : cs[0]'(by omega) = 0 := by
    have h1 := (cb _ (List.getElem_mem (show 0 < cs.length by omega))).1
    obtain ⟨i, hi, e⟩ := List.getElem_of_mem m0
    by_cases z : i = 0
    · subst z
      exact e
    · have := List.pairwise_iff_getElem.mp pw 0 i (by omega) hi (by omega)
      omega
  have eb : cs[n]'(by omega) = b := by
    have h1 := (cb _ (List.getElem_mem (show n < cs.length by omega))).2
    obtain ⟨i, hi, e⟩ := List.getElem_of_mem mb
    by_cases z : i = n
    · subst z
      exact e
    · have := List.pairwise_iff_getElem.mp pw i n hi (by omega) (by omega)
      omega
  omega
end Vm
namespace Vm
open PySem L2 PySem.Spec PyProof.Rows
/-! ### a common bottom; loads and spreads drawn (C) -/
theorem rev_sortA {ns : List Int} : ((sortA ns).map PyData.int).reverse = (sortD ns).map PyData.int := by
  unfold sortA
  rw [← List.map_reverse, List.reverse_reverse]
/-! ### loads drawn -/
def cLoadC : CS :=
 (cSeq (cSet 3 (cCall fDrawC (lCons (cVar 0) (lCons (cC (.int 5)) lNil))))
 (cSeq (cIfS (cB (cOp2 opEq (cVar 3) (cC (.int 0))))
 (cRet (cOp1 opTuple (cLc [6] (ciR1 (cVar 1)) (tgN 6) ctYes (cOp2 opAdd (cOp2 opDiv (cVar 2) (cVar 1)) (cOp1 opInt (cOp2 opLt (cVar 6) (cOp2 opMod (cVar 2) (cVar 1))))))))
 cNx)
 (cSeq (cSet 4 (cOp1 opSorted (cOp2 opAdd (cLst (cCons (cC (.int 0)) (cCons (cVar 2) cNil))) (cLc [6] (ciR1 (cOp2 opSub (cVar 1) (cC (.int 1)))) (tgN 6) ctYes (cCall fDrawC (lCons (cVar 0) (lCons (cOp2 opAdd (cVar 2) (cC (.int 1))) lNil)))))))
 (cSeq (cIfS (cB (cOp2 opEq (cVar 3) (cC (.int 1))))
 (cSeq (cSet 5 (cOp2 opMin2 (cVar 2) (cC (.int 2))))
 (cSet 4 (cOp1 opSorted (cOp2 opAdd (cLst (cCons (cC (.int 0)) (cCons (cVar 2) cNil))) (cLc [6] (ciR1 (cOp2 opSub (cVar 1) (cC (.int 1)))) (tgN 6) ctYes (cOp2 opSub (cVar 2) (cCall fDrawC (lCons (cVar 0) (lCons (cOp2 opAdd (cVar 5) (cC (.int 1))) lNil)))))))))
 cNx)
 (cRet (cOp1 opTuple (cOp1 opRevA (cOp1 opSorted (cLc [6] (ciR1 (cVar 1)) (tgN 6) ctYes (cOp2 opSub (cOp2 opIx (cVar 4) (cOp2 opAdd (cVar 6) (cC (.int 1)))) (cOp2 opIx (cVar 4) (cVar 6))))))))))))
def fLoadC : Fn := runF 7 cLoadC
theorem rs_even {q : Int} {r : Nat} : ∀ n : Nat, rs n (fun i => q + if i < r then 1 else 0) = n * q + (if r ≤ n then (r : Int) else n)
  | 0 => by
    have : (if r ≤ 0 then (r : Int) else (0 : Nat)) = 0 := by split <;> omega
    rw [this]
    simp [rs]
  | n + 1 => by
    rw [rs_succ, rs_even n, show ((n + 1 : Nat) : Int) * q = n * q + q by rw [Int.natCast_succ, Int.add_mul, Int.one_mul]]
    split <;> split <;> split <;> omega
/-- sorted cuts from nought to b -/
structure Cuts (n : Nat) (b : Int) (cs : List Int) : Prop where
  len : cs.length = n + 1
  pw : cs.Pairwise (· ≤ ·)
  e : cs.getD n 0 - cs.getD 0 0 = b
  bd : ∀ c, c ∈ cs → 0 ≤ c ∧ c ≤ b
theorem cuts_of {n : Nat} {b : Int} {ys : List Int} (n1 : 1 ≤ n) (b0 : 0 ≤ b) (hl : ys.length = n - 1) (h : ∀ y, y ∈ ys → 0 ≤ y ∧ y ≤ b) : Cuts n b (sortA (0 :: b :: ys)) := by
  have pm := sortA_perm (0 :: b :: ys)
  have cl : (sortA (0 :: b :: ys)).length = n + 1 := by
    rw [pm.length_eq]
    simp
    omega
  have cb : ∀ c, c ∈ sortA (0 :: b :: ys) → 0 ≤ c ∧ c ≤ b := fun c hc => by
    have := pm.mem_iff.mp hc
    rcases List.mem_cons.mp this with rfl | this
    · omega
    · rcases List.mem_cons.mp this with rfl | this
      · omega
      · exact h c this
  exact ⟨cl, sortA_pw _, ends cl (sortA_pw _) (pm.mem_iff.mpr (List.mem_cons_self ..)) (pm.mem_iff.mpr (List.mem_cons_of_mem _ (List.mem_cons_self ..))) cb, cb⟩
theorem Cuts.ld {n : Nat} {b : Int} {cs : List Int} (h : Cuts n b cs) : Ld n b (sortD ((List.range n).map fun i => cs.getD (i + 1) 0 - cs.getD i 0)) := by
  refine ⟨by rw [sortD_len]; simp, fun x hx => ?_, ?_, sortD_pw _⟩
  · obtain ⟨i, hi, rfl⟩ := List.mem_map.mp (sortD_mem.mp hx)
    have hi := List.mem_range.mp hi
    have hl := h.len
    have := List.pairwise_iff_getElem.mp h.pw i (i + 1) (by omega) (by omega) (by omega)
    rw [getD_get (show i + 1 < cs.length by omega), getD_get (show i < cs.length by omega)]
    omega
  · rw [sortD_sum]
    exact (rs_tel (f := fun i => cs.getD i 0) n).trans h.e
theorem loadC_ok {B n b : Nat} {p : Cell} (r : List Cell) (hp : IsPenL B p) (hB : B < 900000) (n1 : 1 ≤ n) (n2 : n ≤ 12) (hb : b ≤ 1000) : ∃ k p', fLoadC [.c 0, .d (.int (n : Nat)), .d (.int (b : Nat))] (p :: r) = .ok (.d (ldD k)) (p' :: r) ∧ Ld n b k ∧ IsPenL (B + 30) p' := by
  suffices h : Ok (fLoadC [.c 0, .d (.int (n : Nat)), .d (.int (b : Nat))] (p :: r)) fun a m => ∃ k p', a = .d (ldD k) ∧ m = p' :: r ∧ Ld n b k ∧ IsPenL (B + 30) p' by
    obtain ⟨_, _, e, k, p', rfl, rfl, h⟩ := h
    exact ⟨k, p', e, h⟩
  unfold fLoadC
  refine run_ok ?_
  unfold cLoadC
  let ST := fun (x3 x4 x5 x6 : Sl) (m : List Cell) => (⟨[.c 0, .d (.int (n : Nat)), .d (.int (b : Nat)), x3, x4, x5, x6], m⟩ : S)
  obtain ⟨w, p1, e1, w0, w1, hp1⟩ := dC r 5 hp
  let dw : Sl := .d (.int w)
  refine st (s1 := ST dw .u .u .u (p1 :: r)) (by simp [ST, e1]; exact .rfl) ?_
  by_cases h0 : w = 0
  · subst h0
    refine w_sif (x := true) (s1 := ST dw .u .u .u (p1 :: r)) (by simp [ST, dw]; exact .rfl) (fun _ => ?_) fun z => nomatch z
    have r2 := ciR1_n (c := cVar 1) (s := ST dw .u .u .u (p1 :: r)) (s1 := ST dw .u .u .u (p1 :: r)) (n := n) (by simp [ST]) (by omega)
    have dv : opDiv (.d (.int (b : Nat))) (.d (.int (n : Nat))) = some (.d (.int ((b : Int) / (n : Int)))) := opDiv_s (by omega) (by omega)
    have md : opMod (.d (.int (b : Nat))) (.d (.int (n : Nat))) = some (.d (.int ((b : Int) % (n : Int)))) := opMod_i (by omega)
    have lt : (b : Int) % (n : Int) = ((b % n : Nat) : Int) := by rw [Int.natCast_emod]
    have l2 := lc_for (own := [6]) (tg := tgN 6) (el := (cOp2 opAdd (cOp2 opDiv (cVar 2) (cVar 1)) (cOp1 opInt (cOp2 opLt (cVar 6) (cOp2 opMod (cVar 2) (cVar 1)))))) (fun a : Nat => PyData.int ((b : Int) / (n : Int) + if a < b % n then 1 else 0)) r2 (by simp; omega) fun a ha => by
      refine ⟨_, rfl, [.c 0, .d (.int (n : Nat)), .d (.int (b : Nat)), dw, .u, .u, .d (.int (a : Nat))], ?_⟩
      rw [lt] at md
      generalize (b : Int) / (n : Int) = y at *
      generalize b % n = z at *
      by_cases h : a < z <;> simp [ST, dv, md, h]
    refine w_retS (x := .d (ldD ((List.range n).map fun a : Nat => (b : Int) / (n : Int) + if a < b % n then 1 else 0))) (s1 := ST dw .u .u .u (p1 :: r)) (by
      simp only [ST] at l2 ⊢
      simp [l2, ldD]
      exact .rfl) (ok_d ⟨_, p1, rfl, by simp [ST], ⟨by simp, fun x hx => ?_, ?_, ?_⟩, hp1.mono (by omega)⟩)
    · obtain ⟨a, _, rfl⟩ := List.mem_map.mp hx
      have : 0 ≤ (b : Int) / (n : Int) := Int.ediv_nonneg (by omega) (by omega)
      split <;> omega
    · have e := rs_even (q := (b : Int) / (n : Int)) (r := b % n) n
      have hlt : b % n < n := Nat.mod_lt _ n1
      rw [if_pos (by omega)] at e
      refine Eq.trans e ?_
      have := Int.mul_ediv_add_emod (b : Int) (n : Int)
      rw [lt] at this
      exact this
    · rw [List.pairwise_map]
      refine List.Pairwise.imp_of_mem (R := fun a c => a < c) (fun {a c} _ _ hac => ?_) List.pairwise_lt_range
      show (b : Int) / (n : Int) + (if c < b % n then 1 else 0) ≤ (b : Int) / (n : Int) + if a < b % n then 1 else 0
      split <;> split <;> omega
  refine st (s1 := ST dw .u .u .u (p1 :: r)) (by simp [ST, dw, h0]; exact .rfl) ?_
  have sn : (n : Int) - 1 = ((n - 1 : Nat) : Int) := by omega
  -- the cuts
  have tail : ∀ (cs : List Int) (x5 : Sl) (p : Cell), Cuts n b cs → IsPenL (B + 30) p → Wp (cRet (cOp1 opTuple (cOp1 opRevA (cOp1 opSorted (cLc [6] (ciR1 (cVar 1)) (tgN 6) ctYes (cOp2 opSub (cOp2 opIx (cVar 4) (cOp2 opAdd (cVar 6) (cC (.int 1)))) (cOp2 opIx (cVar 4) (cVar 6)))))))) (poF (p :: r) fun a m => ∃ k p', a = .d (ldD k) ∧ m = p' :: r ∧ Ld n b k ∧ IsPenL (B + 30) p') (ST dw (.d (.list (cs.map PyData.int))) x5 .u (p :: r)) := fun cs x5 p hc hp => by
    have hl := hc.len
    have r3 := ciR1_n (c := cVar 1) (s := ST dw (.d (.list (cs.map PyData.int))) x5 .u (p :: r)) (s1 := ST dw (.d (.list (cs.map PyData.int))) x5 .u (p :: r)) (n := n) (by simp [ST]) (by omega)
    have l3 := lc_for (own := [6]) (tg := tgN 6) (el := (cOp2 opSub (cOp2 opIx (cVar 4) (cOp2 opAdd (cVar 6) (cC (.int 1)))) (cOp2 opIx (cVar 4) (cVar 6)))) (fun i : Nat => PyData.int (cs.getD (i + 1) 0 - cs.getD i 0)) r3 (by simp; omega) fun i hi => by
      have hi := List.mem_range.mp hi
      obtain ⟨A, hA⟩ : ∃ A, i + 1 = A := ⟨_, rfl⟩
      have hA2 : (i : Int) + 1 = (A : Int) := by omega
      have x1 := ixL (xs := cs) (i := A) (by omega)
      have x0 := ixL (xs := cs) (i := i) (by omega)
      rw [hA, getD_get (show A < cs.length by omega), getD_get (show i < cs.length by omega)]
      exact ⟨_, rfl, [.c 0, .d (.int (n : Nat)), .d (.int (b : Nat)), dw, .d (.list (cs.map PyData.int)), x5, .d (.int (i : Nat))], by simp [ST, hA2, x1, x0]⟩
    have em : (List.range n).map (fun i : Nat => PyData.int (cs.getD (i + 1) 0 - cs.getD i 0)) = ((List.range n).map fun i => cs.getD (i + 1) 0 - cs.getD i 0).map PyData.int := by
      rw [List.map_map]
      rfl
    rw [em] at l3
    have hd := hc.ld
    generalize (List.range n).map (fun i => cs.getD (i + 1) 0 - cs.getD i 0) = z at *
    have rv := rev_sortA (ns := z)
    have so := opSorted_s (ns := z)
    generalize (sortA z).map PyData.int = y at *
    refine w_ret (x := .d (ldD (sortD z))) (s1 := ST dw (.d (.list (cs.map PyData.int))) x5 .u (p :: r)) (by simp only [ST] at l3 ⊢; simp [l3, so, rv, ldD]; exact .rfl) (ok_d ⟨_, p, rfl, by simp [ST], hd, hp⟩)
  have r2 := ciR1_n (c := cOp2 opSub (cVar 1) (cC (.int 1))) (s := ST dw .u .u .u (p1 :: r)) (s1 := ST dw .u .u .u (p1 :: r)) (n := n - 1) (by simp only [ST]; simp [sn]) (by omega)
  obtain ⟨acc, m', e3, hal, hJ, p3, rfl, hp3⟩ := lc_draws (own := [6]) (tg := tgN 6) (el := (cCall fDrawC (lCons (cVar 0) (lCons (cOp2 opAdd (cVar 2) (cC (.int 1))) lNil)))) (fun i m => ∃ p, m = p :: r ∧ IsPenL (B + 1 + i) p) (fun d => ∃ i, d = .int i ∧ 0 ≤ i ∧ i ≤ (b : Int)) r2 (by simp; omega) ⟨p1, rfl, hp1⟩ fun i mm d hd hi => by
    obtain ⟨p, rfl, hp⟩ := hi
    have hi : i < n - 1 := by
      have := (List.getElem?_eq_some_iff.mp hd).1
      simpa using this
    obtain ⟨y, p', e, y0, y1, hp'⟩ := dC r ((b : Int) + 1) hp
    exact ⟨_, rfl, .int y, [.c 0, .d (.int (n : Nat)), .d (.int (b : Nat)), dw, .u, .u, .d d], p' :: r, by simp [ST, e], ⟨y, rfl, y0, by omega⟩, p', rfl, hp'⟩
  obtain ⟨ys, rfl, hys⟩ := ints_of (fun i => 0 ≤ i ∧ i ≤ (b : Int)) hJ
  rw [List.length_map, List.length_map, List.length_range] at hal
  rw [List.length_map, List.length_range] at hp3
  have ad : ∀ ys : List Int, ys.length = n - 1 → opAdd (.d (.list [PyData.int 0, .int (b : Nat)])) (.d (.list (ys.map PyData.int))) = some (.new (.l ((0 :: (b : Int) :: ys).map PyData.int))) := fun ys hl => opAdd_l (xs := [PyData.int 0, .int (b : Nat)]) (ys := ys.map PyData.int) (by simp; omega)
  have a1 := ad ys hal
  have so1 := opSorted_s (ns := 0 :: (b : Int) :: ys)
  have cu1 := cuts_of (b := (b : Int)) n1 (by omega) hal hys
  generalize sortA (0 :: (b : Int) :: ys) = cs at *
  generalize (0 :: (b : Int) :: ys).map PyData.int = Z at a1 so1
  refine st (s1 := ST dw (.d (.list (cs.map PyData.int))) .u .u (p3 :: r)) (by simp only [ST] at e3 ⊢; simp [e3, a1, so1, -List.cons_append]; exact .rfl) ?_
  by_cases h1 : w = 1
  · refine w_sif (x := true) (s1 := ST dw (.d (.list (cs.map PyData.int))) .u .u (p3 :: r)) (by simp [ST, dw, h1]; exact .rfl) (fun _ => ?_) fun z => nomatch z
    refine w_assoc ?_
    obtain ⟨t, ht, t0, t1⟩ : ∃ t : Int, (if (2 : Int) < (b : Int) then (2 : Int) else (b : Int)) = t ∧ 0 ≤ t ∧ t ≤ (b : Int) := ⟨_, rfl, by split <;> omega, by split <;> omega⟩
    have mn : opMin2 (.d (.int (b : Nat))) (.d (.int 2)) = some (.d (.int t)) := by
      rw [opMin2_i, ht]
    refine st (s1 := ST dw (.d (.list (cs.map PyData.int))) (.d (.int t)) .u (p3 :: r)) (by simp [ST, mn, -opMin2_i]; exact .rfl) ?_
    have r4 := ciR1_n (c := cOp2 opSub (cVar 1) (cC (.int 1))) (s := ST dw (.d (.list (cs.map PyData.int))) (.d (.int t)) .u (p3 :: r)) (s1 := ST dw (.d (.list (cs.map PyData.int))) (.d (.int t)) .u (p3 :: r)) (n := n - 1) (by simp only [ST]; simp [sn]) (by omega)
    obtain ⟨acc, m', e4, hal2, hJ2, p4, rfl, hp4⟩ := lc_draws (own := [6]) (tg := tgN 6) (el := (cOp2 opSub (cVar 2) (cCall fDrawC (lCons (cVar 0) (lCons (cOp2 opAdd (cVar 5) (cC (.int 1))) lNil))))) (fun i m => ∃ p, m = p :: r ∧ IsPenL (B + 1 + (n - 1) + i) p) (fun d => ∃ i, d = .int i ∧ 0 ≤ i ∧ i ≤ (b : Int)) r4 (by simp; omega) ⟨p3, rfl, hp3⟩ fun i mm d hd hi => by
      obtain ⟨p, rfl, hp⟩ := hi
      have hi : i < n - 1 := by
        have := (List.getElem?_eq_some_iff.mp hd).1
        simpa using this
      obtain ⟨y, p', e, y0, y1, hp'⟩ := dC r (t + 1) hp
      exact ⟨_, rfl, .int ((b : Int) - y), [.c 0, .d (.int (n : Nat)), .d (.int (b : Nat)), dw, .d (.list (cs.map PyData.int)), .d (.int t), .d d], p' :: r, by simp [ST, e], ⟨(b : Int) - y, rfl, by omega, by omega⟩, p', rfl, hp'⟩
    obtain ⟨zs, rfl, hzs⟩ := ints_of (fun i => 0 ≤ i ∧ i ≤ (b : Int)) hJ2
    rw [List.length_map, List.length_map, List.length_range] at hal2
    rw [List.length_map, List.length_range] at hp4
    have a2 := ad zs hal2
    have so2 := opSorted_s (ns := 0 :: (b : Int) :: zs)
    have cu2 := cuts_of (b := (b : Int)) n1 (by omega) hal2 hzs
    generalize sortA (0 :: (b : Int) :: zs) = cs2 at *
    generalize (0 :: (b : Int) :: zs).map PyData.int = Z2 at a2 so2
    refine st (s1 := ST dw (.d (.list (cs2.map PyData.int))) (.d (.int t)) .u (p4 :: r)) (by simp only [ST] at e4 ⊢; simp [e4, a2, so2, -List.cons_append]; exact .rfl) ?_
    exact tail cs2 _ p4 cu2 (hp4.mono (by omega))
  · refine st (s1 := ST dw (.d (.list (cs.map PyData.int))) .u .u (p3 :: r)) (by simp [ST, dw, h1]; exact .rfl) ?_
    exact tail cs _ p3 cu1 (hp3.mono (by omega))
end Vm
namespace Vm
open PySem L2 PySem.Spec PyProof.Rows
/-! ### spreads drawn (C) -/
/-- weights of at most so many loads -/
structure CnD (n : Nat) (b : Int) (i : Nat) (F : List (List Int × Int)) : Prop where
  nd : (keys F).Nodup
  ld : ∀ k, k ∈ keys F → Ld n b k
  w : ∀ k, k ∈ keys F → 1 ≤ wt F k ∧ wt F k ≤ 100
  len : F.length ≤ i
  ne : 1 ≤ i → keys F ≠ []
theorem wt_aput {F : List (List Int × Int)} {k t : List Int} {v : Int} : wt (aput F k v) t = if t = k then v else wt F t := by
  unfold wt
  rw [aget_aput]
  split <;> rfl
theorem CnD.put {n : Nat} {b : Int} {i : Nat} {F : List (List Int × Int)} {k : List Int} {v : Int} (h : CnD n b i F) (hk : Ld n b k) (v1 : 1 ≤ v) (v2 : v ≤ 100) : CnD n b (i + 1) (aput F k v) := by
  refine ⟨nodup_aput h.nd, fun t ht => ?_, fun t ht => ?_, ?_, fun _ z => ?_⟩
  · rcases mem_aput.mp ht with ht | rfl
    · exact h.ld t ht
    · exact hk
  · rw [wt_aput]
    split
    · exact ⟨v1, v2⟩
    · rcases mem_aput.mp ht with ht | ht
      · exact h.w t ht
      · contradiction
  · have := aput_len (F := F) (k := k) (v := v)
    have := h.len
    omega
  · have : k ∈ keys (aput F k v) := mem_aput.mpr (.inr rfl)
    rw [z] at this
    cases this
theorem CnD.sum {n : Nat} {b : Int} {i : Nat} {F : List (List Int × Int)} (h : CnD n b i F) (i1 : 1 ≤ i) : 1 ≤ sumW F ∧ sumW F ≤ 100 * (i : Int) := by
  rw [← sum_keys h.nd]
  have kl : (keys F).length = F.length := by unfold keys; rw [List.length_map]
  have hl := h.len
  constructor
  · obtain ⟨k, ks, e⟩ : ∃ k ks, keys F = k :: ks := by
      cases e : keys F with
      | nil => exact absurd e (h.ne i1)
      | cons a l => exact ⟨a, l, rfl⟩
    have h1 := h.w k (by rw [e]; exact List.mem_cons_self ..)
    have h2 := mem_le_sum (xs := (keys F).map (wt F)) (fun x hx => by
      obtain ⟨t, ht, rfl⟩ := List.mem_map.mp hx
      have := h.w t ht
      omega) (wt F k) (List.mem_map_of_mem (by rw [e]; exact List.mem_cons_self ..))
    omega
  · have := isum_le (ws := (keys F).map (wt F)) (b := 100) fun x hx => by
      obtain ⟨t, ht, rfl⟩ := List.mem_map.mp hx
      exact (h.w t ht).2
    rw [List.length_map, kl] at this
    omega
end Vm
namespace Vm
open PySem L2 PySem.Spec PyProof.Rows
theorem ruleC_r {B n : Nat} {p : Cell} (r : List Cell) (hp : IsPenL B p) (hB : B < 900000) (n1 : 1 ≤ n) (n2 : n ≤ 12) : ∃ ds p', fRuleC [.c 0, .d (.int (n : Nat))] (p :: r) = .ok (.d (.tuple ds)) (p' :: r) ∧ RuW n ds ∧ IsPenL (B + 16) p' := by
  suffices h : Ok (fRuleC [.c 0, .d (.int (n : Nat))] (p :: r)) fun a m => ∃ ds p', a = .d (.tuple ds) ∧ m = (p' :: r) ∧ RuW n ds ∧ IsPenL (B + 16) p' by
    obtain ⟨_, _, e, ds, p', rfl, rfl, h⟩ := h
    exact ⟨ds, p', e, h⟩
  unfold fRuleC
  refine run_ok ?_
  unfold cRuleC
  have low : ∀ t b : Int, 0 ≤ t → 1 ≤ b → t ≤ 1000000000 → b ≤ 1000000000 → ∃ p q, fLowestC [.d (.int t), .d (.int b)] [] = .ok (.d (shD p q)) [] ∧ Sh 45 p q ∧ p * b = t * q := fun t b t0 b1 t2 b2 => by
    obtain ⟨p, q, e, sh, hpq⟩ := lowestC_ok (j := 45) (k := 45) t0 b1 (show t.natAbs < 2 ^ 45 by omega) (show b.natAbs < 2 ^ 45 by omega) (by decide)
    exact ⟨p, q, e, sh, hpq⟩
  let ST := fun (w : Int) (x3 x4 x5 x6 x7 x8 x9 x10 : Sl) (m : List Cell) => (⟨[.c 0, .d (.int (n : Nat)), .d (.int w), x3, x4, x5, x6, x7, x8, x9, x10], m⟩ : S)
  obtain ⟨w, p1, e1, w0, w1, hp1⟩ := dC r 6 hp
  refine st (s1 := ST w .u .u .u .u .u .u .u .u (p1 :: r)) (by simp [e1]; exact .rfl) ?_
  by_cases h0 : w = 0
  · subst h0
    obtain ⟨t', p2, e2, t0, t1, hp2⟩ := dC r (n : Int) hp1
    obtain ⟨t, rfl⟩ : ∃ t : Nat, t' = (t : Int) := ⟨t'.toNat, by omega⟩
    refine w_sif (x := true) (s1 := ST 0 .u .u .u .u .u .u .u .u (p1 :: r)) (by simp [ST]; exact .rfl) (fun _ => ?_) fun z => nomatch z
    refine w_assoc ?_
    refine st (s1 := ST 0 (.d (.int (t : Nat))) .u .u .u .u .u .u .u (p2 :: r)) (by simp [ST, e2]; exact .rfl) ?_
    have r2 := ciR1_n (c := cVar 1) (s := ST 0 (.d (.int (t : Nat))) .u .u .u .u .u .u .u (p2 :: r)) (s1 := ST 0 (.d (.int (t : Nat))) .u .u .u .u .u .u .u (p2 :: r)) (n := n) (by simp [ST]) (by omega)
    have l2 := lc_for (own := [9]) (tg := tgN 9) (el := (cTup (cCons (cOp1 opInt (cOp2 opEq (cVar 9) (cVar 3))) (cCons (cC (.int 1)) cNil)))) (fun a : Nat => PyData.tuple [.int (if (a : Int) = (t : Int) then 1 else 0), .int 1]) r2 (by simp; omega) fun a ha => ⟨_, rfl, [.c 0, .d (.int (n : Nat)), .d (.int 0), .d (.int (t : Nat)), .u, .u, .u, .u, .u, .d (.int (a : Nat)), .u], by simp [ST]⟩
    refine w_retS (x := .d (.tuple ((List.range n).map fun a : Nat => PyData.tuple [.int (if (a : Int) = (t : Int) then 1 else 0), .int 1]))) (s1 := ST 0 (.d (.int (t : Nat))) .u .u .u .u .u .u .u (p2 :: r)) (by simp only [ST] at l2 ⊢; simp [l2]; exact .rfl) (ok_d ⟨_, p2, rfl, by simp [ST], RuW.ofRange (S := 1) (w := fun a : Nat => if (a : Int) = (t : Int) then 1 else 0) n1 (by simp) (fun a _ => by
      show (0 : Int) ≤ if (a : Int) = (t : Int) then 1 else 0
      split <;> omega) (by
      have := rs_upd (f := fun _ => 0) (j := t) (p := 1) n
      rw [if_pos (by omega), rs_zero fun _ _ => rfl] at this
      refine Eq.trans (rs_congr fun a _ => ?_) this
      by_cases h : a = t
      · rw [if_pos h, if_pos (by omega)]
        rfl
      · rw [if_neg h, if_neg (by omega)]) (by decide) (by decide) (fun a ha => ?_), hp2.mono (by omega)⟩)
    refine ⟨if (a : Int) = (t : Int) then 1 else 0, 1, by simp [ha]; rfl, ⟨by decide, by rw [Int.gcd_one_right], ?_, show (1 : Int).natAbs < 2 ^ 45 by decide⟩, rfl⟩
    show (if (a : Int) = (t : Int) then (1 : Int) else 0).natAbs < 2 ^ 45
    split <;> decide
  refine st (s1 := ST w .u .u .u .u .u .u .u .u (p1 :: r)) (by simp [ST, h0]; exact .rfl) ?_
  by_cases h1 : w = 1
  · subst h1
    obtain ⟨k, hk, k1, k2⟩ : ∃ k : Int, (3 - (if (10 : Int) < (n : Int) then 1 else 0)) = k ∧ 2 ≤ k ∧ k ≤ 3 := ⟨_, rfl, by split <;> decide, by split <;> decide⟩
    obtain ⟨v, p2, e2, v0, v1, hp2⟩ := dC r k hp1
    obtain ⟨m, hm⟩ : ∃ m : Nat, 1 + v = (m : Int) := ⟨(1 + v).toNat, by omega⟩
    refine w_sif (x := true) (s1 := ST 1 .u .u .u .u .u .u .u .u (p1 :: r)) (by simp [ST]; exact .rfl) (fun _ => ?_) fun z => nomatch z
    refine w_assoc ?_
    have hk' : ∀ b : Bool, b = decide ((10 : Int) < (n : Int)) → (3 - (if b = true then (1 : Int) else 0)) = k := fun b hb => by
      rw [← hk, hb]
      by_cases h10 : (10 : Int) < (n : Int) <;> simp [h10]
    refine st (s1 := ST 1 .u (.d (.int (m : Nat))) .u .u .u .u .u .u (p2 :: r)) (by
      by_cases h10 : (10 : Int) < (n : Int)
      · have h10' : 10 < n := by omega
        have hk2 : k = 2 := by rw [← hk, if_pos h10]; rfl
        rw [hk2] at e2
        simp [ST, h10, h10', e2, hm]
        exact .rfl
      · have h10' : ¬ 10 < n := by omega
        have hk2 : k = 3 := by rw [← hk, if_neg h10]; rfl
        rw [hk2] at e2
        simp [ST, h10, h10', e2, hm]
        exact .rfl) ?_
    refine w_assoc ?_
    have r2 := ciR1_n (c := cVar 1) (s := ST 1 .u (.d (.int (m : Nat))) .u .u .u .u .u .u (p2 :: r)) (s1 := ST 1 .u (.d (.int (m : Nat))) .u .u .u .u .u .u (p2 :: r)) (n := n) (by simp [ST]) (by omega)
    have l2 := lc_for (own := [9]) (tg := tgN 9) (el := (cCallP fPower (lCons (cOp2 opAdd (cVar 9) (cC (.int 1))) (lCons (cVar 4) lNil)))) (fun a : Nat => PyData.int (((a + 1) ^ m : Nat) : Int)) r2 (by simp; omega) fun a ha => by
      have ha := List.mem_range.mp ha
      obtain ⟨A, hA⟩ : ∃ A, a + 1 = A := ⟨_, rfl⟩
      have e := power_ok (a := A) (m := m) (by omega) (by omega)
      have hA2 : (a : Int) + 1 = (A : Int) := by omega
      rw [hA]
      generalize ((A ^ m : Nat) : Int) = y at e
      exact ⟨_, rfl, [.c 0, .d (.int (n : Nat)), .d (.int 1), .u, .d (.int (m : Nat)), .u, .u, .u, .u, .d (.int (a : Nat)), .u], by simp [ST, hA2, e]⟩
    have hl2 : [PyData.int 0] ++ (List.range n).map (fun a : Nat => PyData.int (((a + 1) ^ m : Nat) : Int)) = (List.range (n + 1)).map fun a : Nat => PyData.int ((a ^ m : Nat) : Int) := by
      rw [List.range_succ_eq_map, List.map_cons, List.map_map]
      have : (0 : Nat) ^ m = 0 := Nat.zero_pow (by omega)
      rw [this]
      rfl
    have ad := opAdd_l (xs := [PyData.int 0]) (ys := (List.range n).map (fun a : Nat => PyData.int (((a + 1) ^ m : Nat) : Int))) (by simp; omega)
    rw [hl2] at ad
    obtain ⟨L, hL⟩ : ∃ L, (List.range (n + 1)).map (fun a : Nat => PyData.int ((a ^ m : Nat) : Int)) = L := ⟨_, rfl⟩
    have hLl : L.length = n + 1 := by rw [← hL]; simp
    have ixL' : ∀ a : Nat, a ≤ n → opIx (.d (.list L)) (.d (.int (a : Nat))) = some (.d (.int ((a ^ m : Nat) : Int))) := fun a ha => opIx_l (atI_nat (by omega) (by rw [Int.toNat_natCast, ← hL, List.getElem?_map, List.getElem?_range (by omega)]; rfl))
    rw [hL] at ad
    generalize (List.range n).map (fun a : Nat => PyData.int (((a + 1) ^ m : Nat) : Int)) = L1 at l2 ad
    refine st (s1 := ST 1 .u (.d (.int (m : Nat))) (.d (.list L)) .u .u .u .u .u (p2 :: r)) (by simp only [ST] at l2 ⊢; simp [l2, ad, -List.cons_append]; exact .rfl) ?_
    have r3 := ciR1_n (c := cVar 1) (s := ST 1 .u (.d (.int (m : Nat))) (.d (.list L)) .u .u .u .u .u (p2 :: r)) (s1 := ST 1 .u (.d (.int (m : Nat))) (.d (.list L)) .u .u .u .u .u (p2 :: r)) (n := n) (by simp [ST]) (by omega)
    obtain ⟨acc, e3, hal, hJ⟩ := lc_sh (K := 45) (S := ((n ^ m : Nat) : Int)) (w := fun i : Nat => (((i + 1) ^ m : Nat) : Int) - ((i ^ m : Nat) : Int)) (own := [9]) (tg := tgN 9) (el := (cCallP fLowestC (lCons (cOp2 opSub (cOp2 opIx (cVar 5) (cOp2 opAdd (cVar 9) (cC (.int 1)))) (cOp2 opIx (cVar 5) (cVar 9))) (lCons (cCallP fPower (lCons (cVar 1) (lCons (cVar 4) lNil))) lNil)))) r3 (by omega) fun i hi => by
      show ∃ t, _ ∧ ∃ p q v3, _ ∧ _ ∧ p * ((n ^ m : Nat) : Int) = ((((i + 1) ^ m : Nat) : Int) - ((i ^ m : Nat) : Int)) * q
      obtain ⟨A, hA⟩ : ∃ A, i + 1 = A := ⟨_, rfl⟩
      have hA2 : (i : Int) + 1 = (A : Int) := by omega
      rw [hA]
      have x1 := ixL' A (by omega)
      have x0 := ixL' i (by omega)
      have pw := power_ok (a := n) (m := m) (by omega) (by omega)
      have g1 : i ^ m ≤ A ^ m := Nat.pow_le_pow_left (by omega) m
      have g2 : A ^ m ≤ n ^ m := Nat.pow_le_pow_left (by omega) m
      have g3 : n ^ m ≤ 13 ^ 8 := Nat.le_trans (Nat.pow_le_pow_left (by omega) m) (Nat.pow_le_pow_right (by decide) (by omega))
      have g4 : (13 : Nat) ^ 8 = 815730721 := rfl
      have g5 : 1 ≤ n ^ m := Nat.pow_pos (by omega)
      have g1' : ((i ^ m : Nat) : Int) ≤ ((A ^ m : Nat) : Int) := by omega
      have g2' : ((A ^ m : Nat) : Int) ≤ ((n ^ m : Nat) : Int) := by omega
      have g0' : (0 : Int) ≤ ((i ^ m : Nat) : Int) := by omega
      have g3' : ((n ^ m : Nat) : Int) ≤ 815730721 := by omega
      have g5' : (1 : Int) ≤ ((n ^ m : Nat) : Int) := by omega
      generalize ((i ^ m : Nat) : Int) = yi at *
      generalize ((A ^ m : Nat) : Int) = yA at *
      generalize ((n ^ m : Nat) : Int) = yn at *
      obtain ⟨P, Q, el, sh, P0⟩ := low (yA - yi) yn (by omega) (by omega) (by omega) (by omega)
      exact ⟨_, rfl, P, Q, [.c 0, .d (.int (n : Nat)), .d (.int 1), .u, .d (.int (m : Nat)), .d (.list L), .u, .u, .u, .d (.int (i : Nat)), .u], by simp [ST, hA2, x1, x0, pw, el], sh, P0⟩
    have gp : ∀ i : Nat, i < n → ((i ^ m : Nat) : Int) ≤ (((i + 1) ^ m : Nat) : Int) := fun i _ => by
      have := Nat.pow_le_pow_left (show i ≤ i + 1 by omega) m
      omega
    have g17 : n ^ m ≤ 1728 := by
      have h12 : m ≤ 3 := by omega
      exact Nat.le_trans (Nat.pow_le_pow_left n2 m) (Nat.le_trans (Nat.pow_le_pow_right (by decide) h12) (by decide))
    have g1n : 1 ≤ n ^ m := Nat.pow_pos (by omega)
    exact w_retS (x := .d (.tuple acc)) (s1 := ST 1 .u (.d (.int (m : Nat))) (.d (.list L)) .u .u .u .u .u (p2 :: r)) (by simp only [ST] at e3 ⊢; simp [e3]; exact .rfl) (ok_d ⟨acc, p2, rfl, by simp [ST], RuW.ofRange n1 hal (fun i hi => by have := gp i hi; omega) (by rw [rs_tel (f := fun i => ((i ^ m : Nat) : Int)), Nat.zero_pow (by omega)]; omega) (by omega) (by omega) hJ, hp2.mono (by omega)⟩)
  refine st (s1 := ST w .u .u .u .u .u .u .u .u (p1 :: r)) (by simp [ST, h1]; exact .rfl) ?_
  by_cases h2 : w = 2
  · subst h2
    obtain ⟨v, p2, e2, v0, v1, hp2⟩ := dC r 1000 hp1
    obtain ⟨b, hb⟩ : ∃ b, 1 + v = b := ⟨_, rfl⟩
    refine w_sif (x := true) (s1 := ST 2 .u .u .u .u .u .u .u .u (p1 :: r)) (by simp [ST]; exact .rfl) (fun _ => ?_) fun z => nomatch z
    refine w_assoc ?_
    refine st (s1 := ST 2 .u .u .u (.d (.int b)) .u .u .u .u (p2 :: r)) (by simp [ST, e2, hb]; exact .rfl) ?_
    refine w_assoc ?_
    have sn : (n : Int) - 1 = ((n - 1 : Nat) : Int) := by omega
    have r2 := ciR1_n (c := cOp2 opSub (cVar 1) (cC (.int 1))) (s := ST 2 .u .u .u (.d (.int b)) .u .u .u .u (p2 :: r)) (s1 := ST 2 .u .u .u (.d (.int b)) .u .u .u .u (p2 :: r)) (n := n - 1) (by simp only [ST]; simp [sn]) (by omega)
    obtain ⟨acc, m', e3, hal, hJ, p3, rfl, hp3⟩ := lc_draws (own := [9]) (tg := tgN 9) (el := (cCall fDrawC (lCons (cVar 0) (lCons (cOp2 opAdd (cVar 6) (cC (.int 1))) lNil)))) (fun i m => ∃ p, m = (p :: r) ∧ IsPenL (B + 1 + 1 + i) p) (fun d => ∃ i, d = .int i ∧ 0 ≤ i ∧ i ≤ b) r2 (by simp; omega) ⟨p2, rfl, hp2⟩ fun i mm d hd hi => by
      obtain ⟨p, rfl, hp⟩ := hi
      have hi : i < n - 1 := by
        have := (List.getElem?_eq_some_iff.mp hd).1
        simpa using this
      obtain ⟨y, p', e, y0, y1, hp'⟩ := dC r (b + 1) hp
      exact ⟨_, rfl, .int y, [.c 0, .d (.int (n : Nat)), .d (.int 2), .u, .u, .u, .d (.int b), .u, .u, .d d, .u], (p' :: r), by simp [ST, e], ⟨y, rfl, y0, by omega⟩, p', rfl, hp'⟩
    obtain ⟨ys, rfl, hys⟩ := ints_of (fun i => 0 ≤ i ∧ i ≤ b) hJ
    rw [List.length_map, List.length_map, List.length_range] at hal
    rw [List.length_map, List.length_range] at hp3
    have ad := opAdd_l (xs := [PyData.int 0, .int b]) (ys := ys.map PyData.int) (by simp; omega)
    have hc : [PyData.int 0, .int b] ++ ys.map PyData.int = (0 :: b :: ys).map PyData.int := rfl
    rw [hc] at ad
    obtain ⟨cs, hcs⟩ : ∃ cs, sortA (0 :: b :: ys) = cs := ⟨_, rfl⟩
    have so := opSorted_s (ns := 0 :: b :: ys)
    rw [hcs] at so
    have pm := sortA_perm (0 :: b :: ys)
    have pw := sortA_pw (0 :: b :: ys)
    rw [hcs] at pm pw
    have cl : cs.length = n + 1 := by
      rw [pm.length_eq]
      simp
      omega
    have cb : ∀ c, c ∈ cs → 0 ≤ c ∧ c ≤ b := fun c hc => by
      have := pm.mem_iff.mp hc
      rcases List.mem_cons.mp this with rfl | this
      · omega
      · rcases List.mem_cons.mp this with rfl | this
        · omega
        · exact hys c this
    generalize (0 :: b :: ys).map PyData.int = Z at ad so
    refine st (s1 := ST 2 .u .u .u (.d (.int b)) (.d (.list (cs.map PyData.int))) .u .u .u (p3 :: r)) (by simp only [ST] at e3 ⊢; simp [e3, ad, so, -List.cons_append]; exact .rfl) ?_
    have r3 := ciR1_n (c := cVar 1) (s := ST 2 .u .u .u (.d (.int b)) (.d (.list (cs.map PyData.int))) .u .u .u (p3 :: r)) (s1 := ST 2 .u .u .u (.d (.int b)) (.d (.list (cs.map PyData.int))) .u .u .u (p3 :: r)) (n := n) (by simp [ST]) (by omega)
    obtain ⟨acc, e4, hal2, hJ2⟩ := lc_sh (K := 45) (S := b) (w := fun i : Nat => cs.getD (i + 1) 0 - cs.getD i 0) (own := [9]) (tg := tgN 9) (el := (cCallP fLowestC (lCons (cOp2 opSub (cOp2 opIx (cVar 7) (cOp2 opAdd (cVar 9) (cC (.int 1)))) (cOp2 opIx (cVar 7) (cVar 9))) (lCons (cVar 6) lNil)))) r3 (by omega) fun i hi => by
      show ∃ t, _ ∧ ∃ p q v3, _ ∧ _ ∧ p * b = (cs.getD (i + 1) 0 - cs.getD i 0) * q
      obtain ⟨A, hA⟩ : ∃ A, i + 1 = A := ⟨_, rfl⟩
      have hA2 : (i : Int) + 1 = (A : Int) := by omega
      rw [hA, getD_get (show A < cs.length by omega), getD_get (show i < cs.length by omega)]
      have x1 := ixL (xs := cs) (i := A) (by omega)
      have x0 := ixL (xs := cs) (i := i) (by omega)
      have le := List.pairwise_iff_getElem.mp pw i A (by omega) (by omega) (by omega)
      have c1 := cb _ (List.getElem_mem (show A < cs.length by omega))
      have c0 := cb _ (List.getElem_mem (show i < cs.length by omega))
      generalize cs[A]'(by omega) = yA at *
      generalize cs[i]'(by omega) = yi at *
      obtain ⟨P, Q, el, sh, P0⟩ := low (yA - yi) b (by omega) (by omega) (by omega) (by omega)
      exact ⟨_, rfl, P, Q, [.c 0, .d (.int (n : Nat)), .d (.int 2), .u, .u, .u, .d (.int b), .d (.list (cs.map PyData.int)), .u, .d (.int (i : Nat)), .u], by simp [ST, hA2, x1, x0, el], sh, P0⟩
    have gp : ∀ i : Nat, i < n → cs.getD i 0 ≤ cs.getD (i + 1) 0 := fun i hi => by
      rw [getD_get (show i + 1 < cs.length by omega), getD_get (show i < cs.length by omega)]
      exact List.pairwise_iff_getElem.mp pw i (i + 1) (by omega) (by omega) (by omega)
    have ce : cs.getD n 0 - cs.getD 0 0 = b := ends cl pw (pm.mem_iff.mpr (List.mem_cons_self ..)) (pm.mem_iff.mpr (List.mem_cons_of_mem _ (List.mem_cons_self ..))) cb
    exact w_retS (x := .d (.tuple acc)) (s1 := ST 2 .u .u .u (.d (.int b)) (.d (.list (cs.map PyData.int))) .u .u .u (p3 :: r)) (by simp only [ST] at e4 ⊢; simp [e4]; exact .rfl) (ok_d ⟨acc, p3, rfl, by simp [ST], RuW.ofRange n1 hal2 (fun i hi => by have := gp i hi; omega) (by rw [rs_tel (f := fun i => cs.getD i 0)]; exact ce) (by omega) (by omega) hJ2, hp3.mono (by omega)⟩)
  refine st (s1 := ST w .u .u .u .u .u .u .u .u (p1 :: r)) (by simp [ST, h2]; exact .rfl) ?_
  obtain ⟨b, eb, b0, b1⟩ : ∃ b : Int, opIx (.d (.list [PyData.int 10, .int 2, .int 4])) (.d (.int (w - 3))) = some (.d (.int b)) ∧ 2 ≤ b ∧ b ≤ 10 := by
    have hw : w = 3 ∨ w = 4 ∨ w = 5 := by omega
    rcases hw with rfl | rfl | rfl <;> exact ⟨_, rfl, by decide, by decide⟩
  have r2 := ciR1_n (c := cVar 1) (s := ST w .u .u .u .u .u .u .u .u (p1 :: r)) (s1 := ST w .u .u .u .u .u .u .u .u (p1 :: r)) (n := n) (by simp [ST]) (by omega)
  obtain ⟨acc, m', e3, hal, hJ, p3, rfl, hp3⟩ := lc_draws (own := [9]) (tg := tgN 9) (el := (cCall fDrawC (lCons (cVar 0) (lCons (cOp2 opIx (cLst (cCons (cC (.int 10)) (cCons (cC (.int 2)) (cCons (cC (.int 4)) cNil)))) (cOp2 opSub (cVar 2) (cC (.int 3)))) lNil)))) (fun i m => ∃ p, m = (p :: r) ∧ IsPenL (B + 1 + i) p) (fun d => ∃ i, d = .int i ∧ 0 ≤ i ∧ i ≤ 10) r2 (by simp; omega) ⟨p1, rfl, hp1⟩ fun i mm d hd hi => by
    obtain ⟨p, rfl, hp⟩ := hi
    have hi : i < n := by
      have := (List.getElem?_eq_some_iff.mp hd).1
      simpa using this
    obtain ⟨y, p', e, y0, y1, hp'⟩ := dC r b hp
    exact ⟨_, rfl, .int y, [.c 0, .d (.int (n : Nat)), .d (.int w), .u, .u, .u, .u, .u, .u, .d d, .u], (p' :: r), by simp [ST, eb, e], ⟨y, rfl, y0, by omega⟩, p', rfl, hp'⟩
  obtain ⟨ys, rfl, hys⟩ := ints_of (fun i => 0 ≤ i ∧ i ≤ 10) hJ
  rw [List.length_map, List.length_map, List.length_range] at hal
  rw [List.length_map, List.length_range] at hp3
  refine st (s1 := ST w .u .u .u .u .u (.c (r.length + 1)) .u .u (p3 :: (r ++ [Cell.l (ys.map PyData.int)]))) (by simp only [ST] at e3 ⊢; simp [e3]; exact .rfl) ?_
  obtain ⟨t', p4, e4, t0, t1, hp4⟩ := dC (r ++ [Cell.l (ys.map PyData.int)]) (n : Int) hp3
  obtain ⟨t, rfl⟩ : ∃ t : Nat, t' = (t : Int) := ⟨t'.toNat, by omega⟩
  have htl : t < ys.length := by omega
  obtain ⟨zs, hzs⟩ : ∃ zs, ys.set t (ys[t] + 1) = zs := ⟨_, rfl⟩
  have zb : ∀ z, z ∈ zs → 0 ≤ z ∧ z ≤ 11 := fun z hz => by
    rw [← hzs] at hz
    rcases List.mem_or_eq_of_mem_set hz with hz | rfl
    · have := hys z hz
      omega
    · have := hys _ (List.getElem_mem htl)
      omega
  have zl : zs.length = n := by rw [← hzs, List.length_set]; exact hal
  have zs1 : 1 ≤ zs.sum := by
    rw [← hzs, sum_set _ _ _ htl]
    have := mem_le_sum (fun y hy => (hys y hy).1) _ (List.getElem_mem htl)
    have := sum_nonneg fun y hy => (hys y hy).1
    omega
  have zs2 : zs.sum ≤ 12 * 11 := by
    have := sum_le_mul (b := 11) (xs := zs) fun z hz => (zb z hz).2
    omega
  have aug : cAugL (cVar 8) (cCall fDrawC (lCons (cVar 0) (lCons (cVar 1) lNil))) (cC (.int 1)) (ST w .u .u .u .u .u (.c (r.length + 1)) .u .u (p3 :: (r ++ [Cell.l (ys.map PyData.int)]))) = .nx (ST w .u .u .u .u .u (.c (r.length + 1)) .u .u (p4 :: (r ++ [Cell.l (zs.map PyData.int)]))) := by
    have x1 : (ys.map PyData.int)[t]? = some (.int ys[t]) := by rw [List.getElem?_map, List.getElem?_eq_getElem htl]; rfl
    have x2 : L2.ixN (ys.map PyData.int).length (t : Int) = some t := by
      unfold L2.ixN
      rw [if_pos (by omega)]
      simp [htl]
    have x3 : (ys.map PyData.int).set t (.int (ys[t] + 1)) = zs.map PyData.int := by rw [← hzs, List.map_set]
    have tb : (0 : Int) ≤ (t : Int) ∧ (t : Int) < 4611686018427387904 := by omega
    have c1 : cv (cVar 8) (ST w .u .u .u .u .u (.c (r.length + 1)) .u .u (p3 :: (r ++ [Cell.l (ys.map PyData.int)]))) = .ok (.ref (r.length + 1)) (ST w .u .u .u .u .u (.c (r.length + 1)) .u .u (p3 :: (r ++ [Cell.l (ys.map PyData.int)]))) := by simp [ST]
    have c2 : cv (cCall fDrawC (lCons (cVar 0) (lCons (cVar 1) lNil))) (ST w .u .u .u .u .u (.c (r.length + 1)) .u .u (p3 :: (r ++ [Cell.l (ys.map PyData.int)]))) = .ok (.d (.int (t : Nat))) (ST w .u .u .u .u .u (.c (r.length + 1)) .u .u (p4 :: (r ++ [Cell.l (ys.map PyData.int)]))) := by simp [ST, e4]
    have c3 : cv (cC (.int 1)) (ST w .u .u .u .u .u (.c (r.length + 1)) .u .u (p4 :: (r ++ [Cell.l (ys.map PyData.int)]))) = .ok (.d (.int 1)) (ST w .u .u .u .u .u (.c (r.length + 1)) .u .u (p4 :: (r ++ [Cell.l (ys.map PyData.int)]))) := by simp
    have g1 : (ST w .u .u .u .u .u (.c (r.length + 1)) .u .u (p4 :: (r ++ [Cell.l (ys.map PyData.int)]))).m[r.length + 1]? = some (.l (ys.map PyData.int)) := by simp [ST]
    unfold cAugL
    rw [c1, out_ok]
    rw [c2, out_ok]
    dsimp only
    rw [g1]
    dsimp only
    rw [if_pos tb, Int.toNat_natCast, x1]
    dsimp only
    rw [c3, out_ok]
    dsimp only
    rw [g1]
    dsimp only
    rw [x2]
    dsimp only
    rw [x3]
    simp [ST]
  refine st (s1 := ST w .u .u .u .u .u (.c (r.length + 1)) .u .u (p4 :: (r ++ [Cell.l (zs.map PyData.int)]))) aug ?_
  have fz := cFz_l (i := 8) (n := r.length + 1) (ds := zs.map PyData.int) (s := ST w .u .u .u .u .u (.c (r.length + 1)) .u .u (p4 :: (r ++ [Cell.l (zs.map PyData.int)]))) rfl (by simp [ST])
  have r5 : ciSeq (cFz 8) (ST w .u .u .u .u .u (.c (r.length + 1)) .u .u (p4 :: (r ++ [Cell.l (zs.map PyData.int)]))) = .ok (zs.map PyData.int) (ST w .u .u .u .u .u (.d (.list (zs.map PyData.int))) .u .u (p4 :: (r ++ [Cell.gone]))) := by
    simp only [ST] at fz ⊢
    simp [fz]
  obtain ⟨acc, e5, hal2, hJ2⟩ := lc_shL (K := 45) (S := zs.sum) (own := [10]) (tg := tgN 10) (el := (cCallP fLowestC (lCons (cVar 10) (lCons (cOp1 opSum (cVar 8)) lNil)))) r5 (by omega) fun z hz => by
    obtain ⟨z0, z1⟩ := zb z hz
    obtain ⟨P, Q, el, sh, P0⟩ := low z zs.sum z0 zs1 (by omega) (by omega)
    exact ⟨_, rfl, P, Q, [.c 0, .d (.int (n : Nat)), .d (.int w), .u, .u, .u, .u, .u, .d (.list (zs.map PyData.int)), .u, .d (.int z)], by simp [ST, el], sh, P0⟩
  refine w_ret (x := .d (.tuple acc)) (s1 := ST w .u .u .u .u .u (.d (.list (zs.map PyData.int))) .u .u (p4 :: (r ++ [Cell.gone]))) (by simp only [ST] at e5 ⊢; simp [e5]; exact .rfl) (ok_d ⟨acc, p4, rfl, by simp [ST], RuW.ofList (by omega) zl (fun x hx => (zb x hx).1) zs1 (by omega) (fun j hj => hJ2 j (by omega)), hp4.mono (by omega)⟩)
end Vm
namespace Vm
open PySem L2 PySem.Spec PyProof.Rows
/-! ### lists beside an empty one: their items are not looked at -/
def opNeE : Od → Od → Option Rv
  | .d (.list L), .d (.list []) => some (.d (.bool (!L.isEmpty)))
  | x, y => opNe x y
@[simp] theorem opNeE_nil {L : List D} : opNeE (.d (.list L)) (.d (.list [])) = some (.d (.bool (!L.isEmpty))) := rfl
/-! ### comprehensions over a thing whose elements are data or cells -/
end Vm
namespace Vm
open PySem L2 PySem.Spec PyProof.Rows
/-! ### dicts whose keys are tuples of tuples of whole numbers -/
@[simp] theorem odC_g {x : GX} : odC (some (.g x)) = some (.c (.g x)) := Eq.trans rfl rfl
mutual
def nkD? : D → Option NestedKey
  | .int i => some (.num i)
  | .tuple ds => match nkDs? ds with
    | some ks => some (.tup ks)
    | none => none
  | .none => none
  | .bool _ => none
  | .str _ => none
  | .list _ => none
  | .dict _ => none
def nkDs? : List D → Option (List NestedKey)
  | [] => some []
  | d :: ds => match nkD? d, nkDs? ds with
    | some k, some ks => some (k :: ks)
    | _, _ => none
end
def nkK? : D → Option NestedKey
  | .tuple ds => match nkDs? ds with
    | some ks => if (NestedKey.tup ks).depth ≤ 8 then some (.tup ks) else none
    | none => none
  | _ => none
/-! ### what stands in the heap -/
section
variable {X : Cx} {pins : List (Addr × Obj)} {σ : L2.St} {H : Hp} {s : Shared}
def putN (kas : List (NestedKey × Addr × V)) (k : NestedKey) (b : Addr) (v : V) : List (NestedKey × Addr × V) :=
  if (kas.any fun x => decide (x.1 = k)) = true then kas.map (fun x => if x.1 = k then (x.1, x.2.1, v) else x) else kas ++ [(k, b, v)]
theorem putN_len {kas : List (NestedKey × Addr × V)} {k : NestedKey} {b : Addr} {v : V} : (putN kas k b v).length ≤ kas.length + 1 := by
  unfold putN
  split
  · rw [List.length_map]
    omega
  · rw [List.length_append]
    exact Nat.le_refl _
theorem putN_keys {kas : List (NestedKey × Addr × V)} {k : NestedKey} {b : Addr} {v : V} (h : (kas.map (·.1)).Nodup) : ((putN kas k b v).map (·.1)).Nodup := by
  unfold putN
  split
  · rw [List.map_map]
    have e : (kas.map ((fun x => x.1) ∘ fun x : NestedKey × Addr × V => if x.1 = k then (x.1, x.2.1, v) else x)) = kas.map (·.1) := List.map_congr_left fun x _ => by
      show (if x.1 = k then (x.1, x.2.1, v) else x).1 = x.1
      split <;> rfl
    rw [e]
    exact h
  · rename_i z
    rw [List.map_append, List.nodup_append]
    refine ⟨h, by simp, fun a ha c hc => ?_⟩
    cases List.mem_singleton.mp (show c ∈ [k] from hc)
    intro e
    subst e
    obtain ⟨x, hx, e⟩ := List.mem_map.mp ha
    exact z (List.any_eq_true.mpr ⟨x, hx, decide_eq_true e⟩)
theorem NkG.put {kas : List (NestedKey × Addr × V)} {a : Addr} {k : NestedKey} {b : Addr} {v : V} (g : NkG kas a) (hl : kas.length < sizeLine) : NkG (putN kas k b v) a :=
  ⟨by have := @putN_len kas k b v; omega, g.2.1, putN_keys g.2.2⟩
variable {A : Around} {E : Value → Shared → Prop} {a : Addr} {y v : V} {u r : Value} {o : Option V}
/-! ### the rules -/
end
end Vm
namespace Vm
open PySem L2 PySem.Spec PyProof.Rows
/-! ### the closures of dicts with nested keys -/
def cNewN : CE := fun s => .ok (.new (.g (.n []))) s
@[simp] theorem cNewN_s {s : S} : cNewN s = .ok (.new (.g (.n []))) s := Eq.trans rfl rfl
section
variable {X : Cx} {ec : EC} {W : WX}
/-! ### locked: data from then on -/
/-! ### reading -/
def getN (es : List (D × D)) (k : NestedKey) : Option D := (es.find? fun e => decide (nkD? e.1 = some k)).map (·.2)
def lookN : Od → Od → Option (Option D)
  | .c (.g (.n kvs)), .d x => match nkK? x with
    | some k => some (getD kvs k)
    | none => none
  | .d (.dict ((.list [.none], .none) :: es)), .d x => match nkK? x with
    | some k => some (getN es k)
    | none => none
  | _, _ => none
/-! ### for k in d -/
/-! ### d.get(k, x) -/
def dctN : Od → Bool
  | .c (.g (.n _)) => true
  | _ => false
def kGetN4 (o k d : Rv) (s3 : S) : R Rv := opt (o.od s3.m) fun oo => opt (k.od s3.m) fun kk => opt (lookN oo kk) fun r => match r, d with
  | some x, _ => .ok (.d x) s3
  | none, .d y => .ok (.d y) s3
  | _, _ => .bad
def kGetN2 (cd : CE) (o : Rv) (k : Rv) (s2 : S) : R Rv := (cv cd s2).bind (kGetN4 o k)
def kGetN1 (ck cd : CE) (o : Rv) (s1 : S) : R Rv := opt (o.od s1.m) fun o1 => if dctN o1 = true then (cv ck s1).bind (kGetN2 cd o) else .bad
def cGetN (co ck cd : CE) : CE := fun s => (cv co s).bind (kGetN1 ck cd)
/-! ### d[k] = v -/
end
/-! ### their values -/
@[simp] theorem cGetN_s {co ck cd : CE} {s : S} : cGetN co ck cd s = (cv co s).bind (kGetN1 ck cd) := Eq.trans rfl rfl
@[simp] theorem kGetN2_s {cd : CE} {o k : Rv} {s2 : S} : kGetN2 cd o k s2 = (cv cd s2).bind (kGetN4 o k) := Eq.trans rfl rfl
@[simp] theorem kGetN1_c {ck cd : CE} {n : Nat} {kvs : List (NestedKey × D)} {s1 : S} (h : s1.m[n]? = some (.g (.n kvs))) : kGetN1 ck cd (.ref n) s1 = (cv ck s1).bind (kGetN2 cd (.ref n)) := by
  unfold kGetN1
  rw [od_ref, h, odC_g]
  rfl
end Vm
namespace Vm
open PySem L2 PySem.Spec PyProof.Rows
/-! ### joint spreads: lines of two loads and a share -/
abbrev JL := List Int × List Int × Int × Int
def ratJ (r : JL) : Rat := (r.2.2.1 : Rat) / (r.2.2.2 : Int)
end Vm
namespace Vm
open PySem L2 PySem.Spec PyProof.Rows
/-! ### loads drawn ball by ball -/
/-! ### which is no fuller, by the law's own look -/
/-! ### pairs of loads in order -/
abbrev P2 := List Int × List Int
def ltP (x y : P2) : Prop := x.1 < y.1 ∨ (x.1 = y.1 ∧ x.2 < y.2)
def leP (x y : P2) : Prop := x.1 < y.1 ∨ (x.1 = y.1 ∧ x.2 ≤ y.2)
instance (x y : P2) : Decidable (ltP x y) := inferInstanceAs (Decidable (_ ∨ _))
instance (x y : P2) : Decidable (leP x y) := inferInstanceAs (Decidable (_ ∨ _))
def sortP (ks : List P2) : List P2 := ks.mergeSort fun x y => decide (leP x y)
theorem sortP_perm (ks : List P2) : (sortP ks).Perm ks := List.mergeSort_perm _ _
theorem sortP_mem {ks : List P2} {k : P2} : k ∈ sortP ks ↔ k ∈ ks := (sortP_perm ks).mem_iff
end Vm
namespace Vm
open PySem L2 PySem.Spec PyProof.Rows
/-! ### what is kept by keys of any kind -/
section
variable {κ β : Type} [DecidableEq κ]
def gget (F : List (κ × β)) (k : κ) : Option β := (F.find? fun e => decide (e.1 = k)).map (·.2)
def gkeys (F : List (κ × β)) : List κ := F.map (·.1)
end
/-! ### pairs of loads as keys -/
@[simp] theorem setMR_g {i : Nat} {x : GX} {s1 : S} : setMR i (.new (.g x)) s1 = .nx ⟨s1.v.set i (.c s1.m.length), s1.m ++ [.g x]⟩ := Eq.trans rfl rfl
end Vm
namespace Vm
open PySem L2 PySem.Spec PyProof.Rows
section
variable {X : Cx} {ec : EC} {W : WX}
/-! ### try: .., except x: one statement -/
/-! ### a, b, c = x, y, z -/
def cPar3 (i j l : Nat) (a b c : CE) : CS := fun s => (cv a s).out fun x s1 => (cv b s1).out fun y s2 => (cv c s2).out fun z s3 => match slOf x, slOf y, slOf z with
  | some p, some q, some r => .nx ⟨((s3.v.set i p).set j q).set l r, s3.m⟩
  | _, _, _ => .bad
/-! ### simp lemmas -/
def parR3 (i j l : Nat) (x y z : Rv) (s3 : S) : Out := match slOf x, slOf y, slOf z with
  | some p, some q, some r => .nx ⟨((s3.v.set i p).set j q).set l r, s3.m⟩
  | _, _, _ => .bad
@[simp] theorem parR3_d {i j l : Nat} {x y z : D} {s : S} : parR3 i j l (.d x) (.d y) (.d z) s = .nx ⟨((s.v.set i (.d x)).set j (.d y)).set l (.d z), s.m⟩ := Eq.trans rfl rfl
def kPar3b (i j l : Nat) (c : CE) (x y : Rv) (s2 : S) : Out := (cv c s2).out (parR3 i j l x y)
@[simp] theorem kPar3b_s {i j l : Nat} {c : CE} {x y : Rv} {s : S} : kPar3b i j l c x y s = (cv c s).out (parR3 i j l x y) := Eq.trans rfl rfl
def kPar3 (i j l : Nat) (b c : CE) (x : Rv) (s1 : S) : Out := (cv b s1).out (kPar3b i j l c x)
@[simp] theorem kPar3_s {i j l : Nat} {b c : CE} {x : Rv} {s : S} : kPar3 i j l b c x s = (cv b s).out (kPar3b i j l c x) := Eq.trans rfl rfl
@[simp] theorem cPar3_s {i j l : Nat} {a b c : CE} {s : S} : cPar3 i j l a b c s = (cv a s).out (kPar3 i j l b c) := Eq.trans rfl rfl
end
end Vm
namespace Vm
open PySem L2
/-! ### the fifth draw: a feed for each number of the script -/
def feedE (g c s : Int) : Cell := .l [.int g, .int c, .int s]
structure IsFeed (B : Nat) (p : Cell) : Prop where
  ex : ∃ g c s, p = feedE g c s ∧ 0 ≤ g ∧ 0 ≤ c ∧ c < 2147483629 ∧ 0 ≤ s ∧ s ≤ B
theorem IsFeed.mono {B C : Nat} {p : Cell} (h : IsFeed B p) (hb : B ≤ C) : IsFeed C p := by
  obtain ⟨g, c, s, h1, h2, h3, h4, h5, h6⟩ := h.ex
  exact ⟨g, c, s, h1, h2, h3, h4, h5, by omega⟩
end Vm
namespace Vm
open PySem L2
/-! ### lowest terms, the fourth way -/
/-- a share of w over W -/
def gI (w W : Int) : Int := ((Nat.gcd w.natAbs W.natAbs : Nat) : Int)
def lw (w W : Int) : D := shD (w / gI w W) (W / gI w W)
theorem gI_pos {w W : Int} (h : 1 ≤ W) : 1 ≤ gI w W := by
  have : 0 < Nat.gcd w.natAbs W.natAbs := Nat.gcd_pos_of_pos_right _ (by omega)
  unfold gI
  omega
theorem gI_le {w W : Int} (h : 1 ≤ W) : gI w W ≤ W := by
  have : Nat.gcd w.natAbs W.natAbs ≤ W.natAbs := Nat.gcd_le_right _ (by omega)
  unfold gI
  omega
theorem divI {a w W : Int} {K : Nat} (h : 1 ≤ W) (hb : Bs K W) (hK : K ≤ 8900) : opDiv (.d (.int a)) (.d (.int (gI w W))) = some (.d (.int (a / gI w W))) := by
  have g1 := gI_pos (w := w) h
  have g2 := gI_le (w := w) h
  refine opDiv_i (by omega) ?_
  have : (gI w W).natAbs < 2 ^ K := Nat.lt_of_le_of_lt (by omega) hb
  exact Nat.lt_of_le_of_lt (Nat.le_of_lt_succ (by
    have := (Nat.log2_lt (by omega : (gI w W).natAbs ≠ 0)).mpr this
    omega)) (by omega : K < 9000)
theorem lw_tell {w W : Int} {K : Nat} (h0 : 0 ≤ w) (h : 1 ≤ W) (hw : Bs K w) (hb : Bs K W) (hK : K ≤ 8900) : Tell K (lw w W) ((w : Rat) / W) := by
  obtain ⟨p, q, e, s, r⟩ := lowest_ok h0 h hw hb hK
  have e1 := measure_ok (a := w.natAbs) (b := W.natAbs) (k := K) hb (by omega)
  rw [show ((w.natAbs : Nat) : Int) = w by omega, show ((W.natAbs : Nat) : Int) = W by omega] at e1
  have d1 := divI (a := w) (w := w) h hb hK
  have d2 := divI (a := W) (w := w) h hb hK
  have e2 : fLawLowest [.d (.int w), .d (.int W)] [] = .ok (.d (lw w W)) [] := by
    unfold fLawLowest
    rw [runF_s]
    show fin [] (cLawLowest _) = _
    have e1 : fMeasure [.d (.int w), .d (.int W)] [] = .ok (.d (.int (gI w W))) [] := e1
    unfold lw
    generalize gI w W = g at *
    simp [cLawLowest, e1, d1, d2]
    rfl
  rw [e2] at e
  injection e with e
  injection e with e
  rw [Nat.max_self] at s
  rw [e]
  refine ⟨p, q, rfl, s, ?_⟩
  have := rat_ne h
  have r' : (p : Rat) * (W : Int) = (w : Int) * (q : Int) := by
    rw [← Rat.intCast_mul, ← Rat.intCast_mul, r]
  grind
/-! ### a spread by whole weights -/
/-! ### one side of rows, as a spread -/
end Vm
namespace Vm
open PySem L2
/-! ### weights put together by pairs -/
section
variable {κ : Type} [DecidableEq κ]
def gwt (F : List (κ × Int)) (k : κ) : Int := (gget F k).getD 0
def gsum (F : List (κ × Int)) : Int := (F.map (·.2)).sum
/-- what the events E give to k -/
def gev (E : List (κ × Int)) (k : κ) : Int := (E.map fun e => if e.1 = k then e.2 else 0).sum
end
/-! ### a joint spread by rows -/
end Vm
namespace Vm
open PySem L2
/-! ### shares added up by loads -/
/-- the spread of the weights F over the bottom N -/
def spN (N : Int) (F : List (List Int × Int)) : List D := (sortL (keys F)).map fun k => rowD k (lw (wt F k) N)
end Vm
namespace Vm
open PySem L2
/-! ### two spreads of one kind -/
/-! ### the two parts of a joint spread -/
def selJ (z : Bool) (l : JL) : List Int := if z then l.2.1 else l.1
/-- a line's share over the bottom N -/
def aJ (N : Int) (l : JL) : Int := l.2.2.1 * (N / l.2.2.2)
def evJ (z : Bool) (N : Int) (L : List JL) : List (List Int × Int) := L.map fun l => (selJ z l, aJ N l)
/-- lines whose shares all have the bottom N -/
structure OverN (K : Nat) (N : Int) (L : List JL) : Prop where
  n1 : 1 ≤ N
  bN : Bs K N
  k1 : 1 ≤ K
  p : ∀ l, l ∈ L → 0 ≤ l.2.2.1
  q : ∀ l, l ∈ L → 1 ≤ l.2.2.2
  g : ∀ l, l ∈ L → Int.gcd l.2.2.1 l.2.2.2 = 1
  dv : ∀ l, l ∈ L → l.2.2.2 ∣ N
  bs : Bs K ((L.map (aJ N)).sum)
  ln : L.length ≤ 100000
theorem aJ_rat {N : Int} {l : JL} (q : 1 ≤ l.2.2.2) (d : l.2.2.2 ∣ N) (n1 : 1 ≤ N) : ((aJ N l : Int) : Rat) / N = ratJ l := by
  obtain ⟨c, hc⟩ := d
  have e : N / l.2.2.2 = c := by rw [hc, Int.mul_ediv_cancel_left _ (by omega)]
  have h1 := rat_ne n1
  have h2 := rat_ne q
  unfold aJ ratJ
  rw [e, Rat.intCast_mul]
  have hN : (N : Rat) = (l.2.2.2 : Rat) * c := by rw [hc, Rat.intCast_mul]
  rw [hN] at h1 ⊢
  have h3 : (c : Rat) ≠ 0 := fun z => h1 (by rw [z, Rat.mul_zero])
  grind
theorem aJ_pos {K : Nat} {N : Int} {L : List JL} (h : OverN K N L) {l : JL} (hl : l ∈ L) : 0 ≤ aJ N l := Int.mul_nonneg (h.p l hl) (Int.ediv_nonneg (by have := h.n1; omega) (by have := h.q l hl; omega))
theorem aJ_le {K : Nat} {N : Int} {L : List JL} (h : OverN K N L) {l : JL} (hl : l ∈ L) : Bs K (aJ N l) := by
  have h0 := aJ_pos h hl
  refine h.bs.le ?_
  have : aJ N l ≤ (L.map (aJ N)).sum := mem_le_sum (fun x hx => by
    obtain ⟨m, hm, rfl⟩ := List.mem_map.mp hx
    exact aJ_pos h hm) _ (List.mem_map_of_mem hl)
  omega
theorem OverN.tell {K : Nat} {N : Int} {L : List JL} (h : OverN K N L) {l : JL} (hl : l ∈ L) : Tell K (shD l.2.2.1 l.2.2.2) ((aJ N l : Rat) / N) := by
  have q := h.q l hl
  have t : Tell (max K (max l.2.2.1.natAbs l.2.2.2.natAbs)) (shD l.2.2.1 l.2.2.2) (ratJ l) := by
    refine ⟨_, _, rfl, ⟨q, h.g l hl, Nat.lt_of_lt_of_le Nat.lt_two_pow_self (Nat.pow_le_pow_right (by decide) (by omega)), Nat.lt_of_lt_of_le Nat.lt_two_pow_self (Nat.pow_le_pow_right (by decide) (by omega))⟩, ?_⟩
    have := rat_ne q
    unfold ratJ
    grind
  rw [← aJ_rat q (h.dv l hl) h.n1] at t
  exact tell_tight t h.n1 (aJ_le h hl) h.bN h.k1
end Vm
namespace PySem.W
open Lean Elab Tactic Meta PySem PySem.Calls PyProof.Rows PyProof.V PySem.Spec
end PySem.W
namespace Vm
open PySem L2
/-! ### weights by loads compared -/
theorem aget_nd : ∀ {F : List (List Int × Int)} {p : List Int × Int}, (keys F).Nodup → p ∈ F → aget F p.1 = some p.2
  | [], _, _, h => by cases h
  | a :: F, p, nd, h => by
    have nd : (a.1 :: keys F).Nodup := nd
    rw [List.nodup_cons] at nd
    rw [aget_cons]
    rcases List.mem_cons.mp h with rfl | h
    · rw [if_pos rfl]
    · have : a.1 ≠ p.1 := fun z => nd.1 (z ▸ List.mem_map_of_mem (f := (·.1)) h)
      rw [if_neg this]
      exact aget_nd nd.2 h
end Vm
namespace Vm
open PySem L2
/-! ### a joint spread by the law's own look: behind the rows' looks -/
abbrev RowP := List Int × Int × Int
end Vm
namespace Vm
open PySem L2
/-! ### weights as shares -/
/-- what lines give to k, as a share -/
def ratK (z : Bool) (L : List JL) (k : List Int) : Rat := (L.map fun l => if selJ z l = k then ratJ l else 0).sum
def ratP (A : List RowP) (k : List Int) : Rat := (A.map fun r => if r.1 = k then ((r.2.1 : Int) : Rat) / ((r.2.2 : Int) : Rat) else 0).sum
/-- one side of the lines is the spread A -/
structure SameR (z : Bool) (L : List JL) (A : List RowP) : Prop where
  ks : ∀ k, (∃ l, l ∈ L ∧ selJ z l = k) ↔ ∃ r, r ∈ A ∧ r.1 = k
  ws : ∀ k, ratK z L k = ratP A k
end Vm
namespace Vm
open PySem L2
/-! ### the law's look and the program's -/
def raP (r : RowP) : Rat := ((r.2.1 : Int) : Rat) / ((r.2.2 : Int) : Rat)
/-- a spread of n boxes and b balls, its rows rising -/
structure SpA (n : Nat) (b : Int) (A : List RowP) : Prop where
  ne : A ≠ []
  pw : (A.map (·.1)).Pairwise (· < ·)
  ld : ∀ r, r ∈ A → loadB (ldD r.1) = true
  ln : ∀ r, r ∈ A → r.1.length = n
  sm : ∀ r, r ∈ A → r.1.sum = b
  p : ∀ r, r ∈ A → 1 ≤ r.2.1
  q : ∀ r, r ∈ A → 1 ≤ r.2.2
  g : ∀ r, r ∈ A → Int.gcd r.2.1 r.2.2 = 1
  one : (A.map raP).sum = 1
theorem SpA.nd {n : Nat} {b : Int} {A : List RowP} (h : SpA n b A) : (A.map (·.1)).Nodup := h.pw.imp fun {a b} hlt e => absurd hlt (by rw [e]; exact List.lt_irrefl b)
theorem sum_ite {ks : List (List Int)} {t : List Int} {x : Rat} (nd : ks.Nodup) (h : t ∈ ks) : (ks.map fun k => if t = k then x else 0).sum = x := by
  induction ks with
  | nil => cases h
  | cons k ks ih =>
    rw [List.nodup_cons] at nd
    rw [List.map_cons, List.sum_cons]
    have zero : ∀ ks : List (List Int), t ∉ ks → (ks.map fun k => if t = k then x else 0).sum = 0 := fun ks => by
      induction ks with
      | nil => exact fun _ => rfl
      | cons k ks ih =>
        intro hn
        rw [List.map_cons, List.sum_cons, ih fun z => hn (List.mem_cons_of_mem _ z), if_neg (fun z => hn (by rw [z]; exact List.mem_cons_self ..)), Rat.add_zero]
    by_cases e : t = k
    · subst e
      rw [if_pos rfl, zero ks nd.1, Rat.add_zero]
    · rw [if_neg e, Rat.zero_add]
      exact ih nd.2 ((List.mem_cons.mp h).resolve_left e)
theorem sum_add (ks : List (List Int)) (f g : List Int → Rat) : (ks.map fun k => f k + g k).sum = (ks.map f).sum + (ks.map g).sum := by
  induction ks with
  | nil => rw [List.map_nil, List.map_nil, List.map_nil, List.sum_nil, Rat.add_zero]
  | cons k ks ih =>
    rw [List.map_cons, List.map_cons, List.map_cons, List.sum_cons, List.sum_cons, List.sum_cons, ih]
    grind
theorem sum_ratK {z : Bool} {ks : List (List Int)} (nd : ks.Nodup) : ∀ L : List JL, (∀ l, l ∈ L → selJ z l ∈ ks) → (ks.map (ratK z L)).sum = (L.map ratJ).sum
  | [], _ => by
    have : ∀ ks : List (List Int), (ks.map (ratK z [])).sum = 0 := fun ks => by
      induction ks with
      | nil => rfl
      | cons k ks ih =>
        rw [List.map_cons, List.sum_cons, ih, Rat.add_zero]
        rfl
    rw [this]
    rfl
  | l :: L, h => by
    have ih := sum_ratK nd L fun m hm => h m (List.mem_cons_of_mem _ hm)
    have e : ks.map (ratK z (l :: L)) = ks.map fun k => (if selJ z l = k then ratJ l else 0) + ratK z L k := List.map_congr_left fun k _ => by
      unfold ratK
      rw [List.map_cons, List.sum_cons]
    rw [e, sum_add ks (fun k => if selJ z l = k then ratJ l else 0) (ratK z L), ih, sum_ite nd (h l (List.mem_cons_self ..)), List.map_cons, List.sum_cons]
theorem ratP_at {A : List RowP} (nd : (A.map (·.1)).Nodup) {r : RowP} (h : r ∈ A) : ratP A r.1 = raP r := by
  unfold ratP
  induction A with
  | nil => cases h
  | cons a A ih =>
    have nd' : (a.1 :: A.map (·.1)).Nodup := nd
    rw [List.nodup_cons] at nd'
    rw [List.map_cons, List.sum_cons]
    have zero : ∀ B : List RowP, r.1 ∉ B.map (·.1) → (B.map fun s => if s.1 = r.1 then ((s.2.1 : Int) : Rat) / ((s.2.2 : Int) : Rat) else 0).sum = 0 := fun B => by
      induction B with
      | nil => exact fun _ => rfl
      | cons s B ih =>
        intro hn
        rw [List.map_cons, List.sum_cons, ih fun z => hn (List.mem_cons_of_mem _ z), if_neg (fun z => hn (by rw [← z]; exact List.mem_map_of_mem (List.mem_cons_self ..))), Rat.add_zero]
    rcases List.mem_cons.mp h with rfl | h
    · rw [if_pos rfl, zero A nd'.1, Rat.add_zero]
      rfl
    · have : a.1 ≠ r.1 := fun z => nd'.1 (z ▸ List.mem_map_of_mem (f := (·.1)) h)
      rw [if_neg this, Rat.zero_add]
      exact ih nd'.2 h
theorem SameR.sum {z : Bool} {L : List JL} {n : Nat} {b : Int} {A : List RowP} (h : SameR z L A) (hA : SpA n b A) : (L.map ratJ).sum = 1 := by
  have s := sum_ratK (z := z) hA.nd L fun l hl => by
    obtain ⟨r, hr, e⟩ := (h.ks (selJ z l)).mp ⟨l, hl, rfl⟩
    rw [← e]
    exact List.mem_map_of_mem hr
  rw [← s, List.map_map]
  have : A.map (ratK z L ∘ (·.1)) = A.map raP := List.map_congr_left fun r hr => by
    show ratK z L r.1 = raP r
    rw [h.ws, ratP_at hA.nd hr]
  rw [this]
  exact hA.one
theorem SameR.kind {z : Bool} {L : List JL} {n : Nat} {b : Int} {A : List RowP} (h : SameR z L A) (hA : SpA n b A) {l : JL} (hl : l ∈ L) : (selJ z l).length = n ∧ (selJ z l).sum = b := by
  obtain ⟨r, hr, e⟩ := (h.ks (selJ z l)).mp ⟨l, hl, rfl⟩
  rw [← e]
  exact ⟨hA.ln r hr, hA.sm r hr⟩
end Vm
namespace Vm
open PySem L2
/-! ### a joint spread by rows has its rows' sides -/
section
variable {κ : Type} [DecidableEq κ]
theorem sum_iteG {ks : List κ} {t : κ} {x : Int} (nd : ks.Nodup) (h : t ∈ ks) : (ks.map fun k => if t = k then x else 0).sum = x := by
  induction ks with
  | nil => cases h
  | cons k ks ih =>
    rw [List.nodup_cons] at nd
    rw [List.map_cons, List.sum_cons]
    have zero : ∀ ks : List κ, t ∉ ks → (ks.map fun k => if t = k then x else 0).sum = 0 := fun ks => by
      induction ks with
      | nil => exact fun _ => rfl
      | cons k ks ih =>
        intro hn
        rw [List.map_cons, List.sum_cons, ih fun z => hn (List.mem_cons_of_mem _ z), if_neg (fun z => hn (by rw [z]; exact List.mem_cons_self ..))]
        rfl
    by_cases e : t = k
    · subst e
      rw [if_pos rfl, zero ks nd.1]
      omega
    · rw [if_neg e, ih nd.2 ((List.mem_cons.mp h).resolve_left e)]
      omega
theorem sum_addG (ks : List κ) (f g : κ → Int) : (ks.map fun k => f k + g k).sum = (ks.map f).sum + (ks.map g).sum := by
  induction ks with
  | nil => rfl
  | cons k ks ih =>
    rw [List.map_cons, List.map_cons, List.map_cons, List.sum_cons, List.sum_cons, List.sum_cons, ih]
    omega
end
/-- the lines of a joint spread by rows -/
def linL (F : List (P2 × Int)) : List JL := (sortP (gkeys F)).map fun k => (k.1, k.2, gwt F k / gI (gwt F k) (gsum F), gsum F / gI (gwt F k) (gsum F))
end Vm
namespace Vm
open PySem L2
/-! ### the joint spread of rows is let by for its sides -/
theorem perm_sumE {as bs : List Int} (h : as.Perm bs) : as.sum = bs.sum := by
  induction h with
  | nil => rfl
  | cons a _ ih => rw [List.sum_cons, List.sum_cons, ih]
  | swap a b l =>
    rw [List.sum_cons, List.sum_cons, List.sum_cons, List.sum_cons]
    omega
  | trans _ _ i1 i2 => rw [i1, i2]
end Vm
namespace Vm
open PySem L2 PySem.Spec PyProof.Rows
/-! ### a call that is lent one list: it runs with this cell alone, wherever it stands -/
def RF.toQ (k : Nat) (s : S) : RF → R Rv
  | .ok (.d x) [.l ds] => .ok (.d x) ⟨s.v, s.m.set k (.l ds)⟩
  | .ok (.new c) [.l ds] => .ok (.new c) ⟨s.v, s.m.set k (.l ds)⟩
  | .ex e [.l ds] => .ex e ⟨s.v, s.m.set k (.l ds)⟩
  | _ => .bad
def goQ (f : Fn) (k : Nat) (as : List Sl) (s : S) : Option Cell → R Rv
  | some (.l ds) => (f (.c 0 :: as) [.l ds]).toQ k s
  | _ => .bad
def kCallQ (f : Fn) : List Sl → S → R Rv
  | .c k :: as, s => if as.all Sl.isD = true then goQ f k as s s.m[k]? else .bad
  | _, _ => .bad
def cCallQ (f : Fn) (cl : CL) : CE := fun s => (cl s).bind (kCallQ f)
@[simp] theorem cCallQ_s {f : Fn} {cl : CL} {s : S} : cCallQ f cl s = (cl s).bind (kCallQ f) := Eq.trans rfl rfl
@[simp] theorem kCallQ_s {f : Fn} {k : Nat} {as : List Sl} {s : S} : kCallQ f (.c k :: as) s = if as.all Sl.isD = true then goQ f k as s s.m[k]? else .bad := Eq.trans rfl rfl
@[simp] theorem goQ_s {f : Fn} {k : Nat} {as : List Sl} {s : S} {ds : List D} : goQ f k as s (some (.l ds)) = (f (.c 0 :: as) [.l ds]).toQ k s := Eq.trans rfl rfl
@[simp] theorem toQ_d {k : Nat} {s : S} {x : D} {ds : List D} : (RF.ok (.d x) [.l ds]).toQ k s = .ok (.d x) ⟨s.v, s.m.set k (.l ds)⟩ := Eq.trans rfl rfl
@[simp] theorem toQ_n {k : Nat} {s : S} {c : Cell} {ds : List D} : (RF.ok (.new c) [.l ds]).toQ k s = .ok (.new c) ⟨s.v, s.m.set k (.l ds)⟩ := Eq.trans rfl rfl
@[simp] theorem toQ_e {k : Nat} {s : S} {e : String} {ds : List D} : (RF.ex e [.l ds]).toQ k s = .ex e ⟨s.v, s.m.set k (.l ds)⟩ := Eq.trans rfl rfl
end Vm
namespace Vm
open PySem L2 PySem.Spec PyProof.Rows
/-! ### a feed lent from wherever it stands -/
theorem IsFeed.l {B : Nat} {p : Cell} (h : IsFeed B p) : ∃ ds, p = .l ds := by
  obtain ⟨g, c, s, rfl, _⟩ := h.ex
  exact ⟨_, rfl⟩
end Vm
namespace Vm
open PySem L2
/-! ### joint spreads gathered: shares of pairs of loads, added -/
def EvJ (K : Nat) (N : Int) (E : List (P2 × D)) (A : List (P2 × Int)) : Prop := Paired (fun (e : P2 × D) (a : P2 × Int) => e.1 = a.1 ∧ Tell K e.2 ((a.2 : Rat) / N) ∧ 0 ≤ a.2) E A
theorem EvJ.pos {K : Nat} {N : Int} {E : List (P2 × D)} {A : List (P2 × Int)} (h : EvJ K N E A) : ∀ a, a ∈ A → 0 ≤ a.2 := by
  induction h with
  | nil => exact fun a h => nomatch h
  | cons q _ ih =>
    intro a ha
    rcases List.mem_cons.mp ha with rfl | ha
    · exact q.2.2
    · exact ih a ha
end Vm
namespace Vm
open PySem L2
/-! ### what events give to a question f, together -/
section
variable {κ : Type} [DecidableEq κ]
def IE (E : List (κ × Int)) (f : κ → Int) : Int := (E.map fun e => f e.1 * e.2).sum
theorem IE_cons {e : κ × Int} {E : List (κ × Int)} {f : κ → Int} : IE (e :: E) f = f e.1 * e.2 + IE E f := by
  unfold IE
  rw [List.map_cons, List.sum_cons]
theorem IE_keys {ks : List κ} {f : κ → Int} (nd : ks.Nodup) : ∀ E : List (κ × Int), (∀ e, e ∈ E → e.1 ∈ ks) → (ks.map fun k => f k * gev E k).sum = IE E f
  | [], _ => by
    have : ∀ ks : List κ, (ks.map fun k => f k * gev ([] : List (κ × Int)) k).sum = 0 := fun ks => by
      induction ks with
      | nil => rfl
      | cons k ks ih =>
        rw [List.map_cons, List.sum_cons, ih]
        have : gev ([] : List (κ × Int)) k = 0 := rfl
        rw [this, Int.mul_zero, Int.zero_add]
    exact this ks
  | e :: E, h => by
    have ih := IE_keys (f := f) nd E fun m hm => h m (List.mem_cons_of_mem _ hm)
    have eq : (ks.map fun k => f k * gev (e :: E) k) = ks.map fun k => (if e.1 = k then f e.1 * e.2 else 0) + f k * gev E k := List.map_congr_left fun k _ => by
      have g : gev (e :: E) k = (if e.1 = k then e.2 else 0) + gev E k := rfl
      rw [g, Int.mul_add]
      by_cases hk : e.1 = k
      · subst hk
        rw [if_pos rfl, if_pos rfl]
      · rw [if_neg hk, if_neg hk, Int.mul_zero]
    rw [eq, sum_addG ks (fun k => if e.1 = k then f e.1 * e.2 else 0) fun k => f k * gev E k, ih, sum_iteG nd (h e (List.mem_cons_self ..)), IE_cons]
theorem IE_at {ks : List κ} {w : κ → Int} {f : κ → Int} : IE (ks.map fun k => (k, w k)) f = (ks.map fun k => f k * w k).sum := by
  unfold IE
  rw [List.map_map]
  rfl
end
/-- a joint spread's lines by whole weights -/
def linesA (F : List (P2 × Int)) : List (P2 × Int) := (sortP (gkeys F)).map fun k => (k, gwt F k)
theorem IE_wt {F : List (List Int × Int)} (nd : (keys F).Nodup) (f : List Int → Int) : IE F f = ((keys F).map fun k => f k * wt F k).sum := by
  unfold IE keys
  rw [List.map_map]
  congr 1
  refine List.map_congr_left fun p hp => ?_
  show f p.1 * p.2 = f p.1 * wt F p.1
  unfold wt
  rw [aget_nd nd hp]
  rfl
theorem IE_acc (E : List (List Int × Int)) (f : List Int → Int) : IE (accL E) f = IE E f := by
  rw [IE_wt (accL_nodup E)]
  have e : (fun k => f k * wt (accL E) k) = fun k => f k * gev E k := funext fun k => by
    rw [accL_wt]
    rfl
  rw [e]
  exact IE_keys (accL_nodup E) E fun x hx => accL_keys.mpr (List.mem_map_of_mem hx)
/-! sums over ranges -/
/-! single spreads -/
/-! a ball leaving both -/
end Vm
namespace Vm
open PySem L2
/-! ### loads, again -/
theorem fallD_pw : ∀ ns : List Int, fallD (ns.map PyData.int) = true ↔ ns.Pairwise (· ≥ ·)
  | [] => by simp [fallD]
  | [a] => by simp [fallD]
  | a :: b :: r => by
    have ih := fallD_pw (b :: r)
    show (geD (.int a) (.int b) && fallD ((b :: r).map PyData.int)) = true ↔ _
    rw [Bool.and_eq_true, ih]
    show decide (b ≤ a) = true ∧ _ ↔ _
    rw [decide_eq_true_eq]
    constructor
    · rintro ⟨h1, h2⟩
      refine List.pairwise_cons.mpr ⟨fun c hc => ?_, h2⟩
      rcases List.mem_cons.mp hc with rfl | hc
      · exact h1
      · have : b ≥ c := (List.pairwise_cons.mp h2).1 c hc
        show c ≤ a
        omega
    · intro z
      have z := List.pairwise_cons.mp z
      exact ⟨z.1 b (List.mem_cons_self ..), z.2⟩
theorem loadB_iff {k : List Int} : loadB (ldD k) = true ↔ (1 ≤ k.length ∧ k.length ≤ 6) ∧ (∀ x, x ∈ k → 0 ≤ x) ∧ k.Pairwise (· ≥ ·) := by
  show (decide (1 ≤ (k.map PyData.int).length ∧ (k.map PyData.int).length ≤ 6) && (k.map PyData.int).all nonB && fallD (k.map PyData.int)) = true ↔ _
  rw [Bool.and_eq_true, Bool.and_eq_true, decide_eq_true_eq, List.length_map, fallD_pw, List.all_eq_true, and_assoc]
  refine and_congr Iff.rfl (and_congr ?_ Iff.rfl)
  constructor
  · intro h x hx
    exact of_decide_eq_true (h (.int x) (List.mem_map_of_mem hx))
  · intro h d hd
    obtain ⟨x, hx, rfl⟩ := List.mem_map.mp hd
    exact decide_eq_true (h x hx)
theorem Ld.load {n : Nat} {b : Int} {k : List Int} (h : Ld n b k) (n1 : 1 ≤ n) (n2 : n ≤ 6) : loadB (ldD k) = true := loadB_iff.mpr ⟨⟨by rw [h.len]; exact n1, by rw [h.len]; exact n2⟩, h.pos, h.fall⟩
/-! ### joint spreads by whole weights -/
theorem gget_nd {κ β : Type} [DecidableEq κ] : ∀ {F : List (κ × β)} {p : κ × β}, (gkeys F).Nodup → p ∈ F → gget F p.1 = some p.2
  | [], _, _, h => by cases h
  | a :: F, p, nd, h => by
    have nd : (a.1 :: gkeys F).Nodup := nd
    have nd := List.nodup_cons.mp nd
    rcases List.mem_cons.mp h with rfl | h
    · unfold gget
      rw [List.find?_cons_of_pos (by simp)]
      rfl
    · have ne : a.1 ≠ p.1 := fun z => nd.1 (by
        rw [z]
        exact List.mem_map_of_mem h)
      have ih := gget_nd nd.2 h
      unfold gget at ih ⊢
      rw [List.find?_cons_of_neg (by simpa using ne)]
      exact ih
theorem gsum_IE {κ : Type} [DecidableEq κ] (E : List (κ × Int)) : gsum E = IE E fun _ => 1 := by
  unfold gsum IE
  refine congrArg List.sum (List.map_congr_left fun e _ => (Int.one_mul _).symm)
theorem IE_linesA {F : List (P2 × Int)} (nd : (gkeys F).Nodup) (f : P2 → Int) : IE (linesA F) f = IE F f := by
  unfold linesA
  rw [IE_at, perm_sumE ((sortP_perm (gkeys F)).map fun k => f k * gwt F k)]
  unfold gkeys IE
  rw [List.map_map]
  refine congrArg List.sum (List.map_congr_left fun p hp => ?_)
  show f p.1 * gwt F p.1 = f p.1 * p.2
  unfold gwt
  rw [gget_nd nd hp]
  rfl
structure JW (n b : Nat) (F : List (P2 × Int)) : Prop where
  nd : (gkeys F).Nodup
  ne : gkeys F ≠ []
  w : ∀ k, k ∈ gkeys F → 1 ≤ gwt F k
  l1 : ∀ k, k ∈ gkeys F → Ld n (b : Int) k.1
  l2 : ∀ k, k ∈ gkeys F → Ld n (b : Int) k.2
  mj : ∀ k, k ∈ gkeys F → Maj k.1 k.2
theorem mem_linesA {F : List (P2 × Int)} {a : P2 × Int} : a ∈ linesA F ↔ a.1 ∈ gkeys F ∧ a.2 = gwt F a.1 := by
  unfold linesA
  rw [List.mem_map]
  constructor
  · rintro ⟨k, hk, rfl⟩
    exact ⟨sortP_mem.mp hk, rfl⟩
  · rintro ⟨h1, h2⟩
    exact ⟨a.1, sortP_mem.mpr h1, by rw [← h2]⟩
theorem gsum_linesA {F : List (P2 × Int)} (nd : (gkeys F).Nodup) : gsum (linesA F) = gsum F := by rw [gsum_IE, gsum_IE, IE_linesA nd]
theorem JW.s1 {n b : Nat} {F : List (P2 × Int)} (h : JW n b F) : 1 ≤ gsum F ∧ ∀ k, k ∈ gkeys F → gwt F k ≤ gsum F := by
  rw [← gsum_linesA h.nd]
  have nn : ∀ x, x ∈ (linesA F).map (·.2) → 0 ≤ x := fun x hx => by
    obtain ⟨a, ha, rfl⟩ := List.mem_map.mp hx
    obtain ⟨h1, h2⟩ := mem_linesA.mp ha
    rw [h2]
    have := h.w _ h1
    omega
  have le : ∀ k, k ∈ gkeys F → gwt F k ≤ gsum (linesA F) := fun k hk => mem_le_sum nn _ (List.mem_map.mpr ⟨(k, gwt F k), mem_linesA.mpr ⟨hk, rfl⟩, rfl⟩)
  refine ⟨?_, le⟩
  obtain ⟨k, ks, e⟩ := List.exists_cons_of_ne_nil h.ne
  have hk : k ∈ gkeys F := by rw [e]; exact List.mem_cons_self ..
  have := le k hk
  have := h.w k hk
  omega
/-- the table of a pairing by whole weights: rows us, columns vs, nothing above -/
structure PT (n : Nat) (M : Int) (us vs : List Int) (R : Nat → Nat → Int) : Prop where
  row : ∀ a, a < n → rs n (R a) = us.getD a 0
  col : ∀ b, b < n → rs n (fun a => R a b) = vs.getD b 0
  ge : ∀ a b, 0 ≤ R a b
  sup : ∀ a b, b < n → a < b → R a b = 0
  all : (rs n fun a => rs n fun b => R a b) = M
/-! ### as data -/
/-- a line's share of the common bottom is its weight -/
theorem aJ_line {w N : Int} (h0 : 1 ≤ w) (h : 1 ≤ N) {a b : List Int} : aJ N (a, b, w / gI w N, N / gI w N) = w := by
  show w / gI w N * (N / (N / gI w N)) = w
  have g1 := gI_pos (w := w) h
  have gw : gI w N ∣ w := Int.gcd_dvd_left (a := w) (b := N)
  have gN : gI w N ∣ N := Int.gcd_dvd_right (a := w) (b := N)
  obtain ⟨c, hc⟩ := gN
  obtain ⟨d, hd⟩ := gw
  generalize gI w N = g at *
  have c1 : 1 ≤ c := by
    rcases Int.lt_or_le 0 c with q | q
    · omega
    · have := Int.mul_nonpos_of_nonneg_of_nonpos (show 0 ≤ g by omega) q
      omega
  rw [hd, hc, Int.mul_ediv_cancel_left _ (show g ≠ 0 by omega), Int.mul_ediv_cancel_left _ (show g ≠ 0 by omega), Int.mul_ediv_cancel _ (show c ≠ 0 by omega), Int.mul_comm]
def selP (z : Bool) (k : P2) : List Int := if z then k.2 else k.1
theorem evJ_linL {n b : Nat} {F : List (P2 × Int)} (h : JW n b F) (z : Bool) : evJ z (gsum F) (linL F) = (sortP (gkeys F)).map fun k => (selP z k, gwt F k) := by
  unfold evJ linL
  rw [List.map_map]
  refine List.map_congr_left fun k hk => ?_
  have hk := sortP_mem.mp hk
  show (selJ z _, aJ (gsum F) (k.1, k.2, _, _)) = _
  rw [aJ_line (h.w k hk) h.s1.1]
  cases z <;> rfl
theorem IE_evJ {n b : Nat} {F : List (P2 × Int)} (h : JW n b F) (z : Bool) (f : List Int → Int) : IE (evJ z (gsum F) (linL F)) f = IE F fun k => f (selP z k) := by
  rw [evJ_linL h, ← IE_linesA h.nd]
  unfold linesA IE
  rw [List.map_map, List.map_map]
  rfl
end Vm
namespace Vm
open PySem L2 PySem.Spec PyProof.Rows
/-! ### spreads by whole weights, each load above nought -/
structure SW (n b : Nat) (F : List (List Int × Int)) : Prop where
  nd : (keys F).Nodup
  ne : keys F ≠ []
  w : ∀ k, k ∈ keys F → 1 ≤ wt F k
  ld : ∀ k, k ∈ keys F → Ld n (b : Int) k
theorem SW.s1 {n b : Nat} {F : List (List Int × Int)} (h : SW n b F) : 1 ≤ sumW F ∧ ∀ k, k ∈ keys F → wt F k ≤ sumW F := by
  obtain ⟨_, b⟩ := sum_ge h.nd fun k hk => by have := h.w k hk; omega
  refine ⟨?_, b⟩
  obtain ⟨k, ks, e⟩ := List.exists_cons_of_ne_nil h.ne
  have hk : k ∈ keys F := by rw [e]; exact List.mem_cons_self ..
  have := b k hk
  have := h.w k hk
  omega
theorem Spr.len {K : Nat} {F : List (List Int × Int)} {ds : List D} (h : Spr K F ds) : ds.length = F.length := by
  obtain ⟨g, rfl, _⟩ := h
  rw [List.length_map, sortL_len]
  unfold keys
  rw [List.length_map]
/-! ### a joint spread and its two sides -/
structure Side (n b : Nat) (F : List (P2 × Int)) (F1 : List (List Int × Int)) (z : Bool) : Prop where
  sw : SW n b F1
  m : ∀ f : List Int → Int, IE F (fun k => f (selP z k)) = IE F1 f
theorem Side.sum {n b : Nat} {F : List (P2 × Int)} {F1 : List (List Int × Int)} {z : Bool} (h : Side n b F F1 z) : sumW F1 = gsum F := by
  have := h.m fun _ => 1
  rw [← gsum_IE, ← gsum_IE] at this
  exact this.symm
/-- the side told by parts is the spread that stands beside -/
theorem Side.data {K n b : Nat} {F : List (P2 × Int)} {F1 : List (List Int × Int)} {z : Bool} {ds : List D} (h : Side n b F F1 z) (jw : JW n b F) (hS : Spr K F1 ds) (bs : Bs K (gsum F)) (hK : K ≤ 8900) : spN (gsum F) (accL (evJ z (gsum F) (linL F))) = ds := by
  have s1 := jw.s1
  have sm := h.sum
  obtain ⟨A, hA⟩ : ∃ A, accL (evJ z (gsum F) (linL F)) = A := ⟨_, rfl⟩
  rw [hA]
  have nd : (keys A).Nodup := by rw [← hA]; exact accL_nodup _
  have pos : ∀ k, k ∈ keys A → 1 ≤ wt A k := fun k hk => by
    rw [← hA] at hk ⊢
    obtain ⟨e, he, rfl⟩ := List.mem_map.mp (accL_keys.mp hk)
    rw [evJ_linL jw] at he
    obtain ⟨p, hp, rfl⟩ := List.mem_map.mp he
    have hp := sortP_mem.mp hp
    have w1 := jw.w p hp
    rw [accL_wt, evJ_linL jw]
    have nn : ∀ x, x ∈ (((sortP (gkeys F)).map fun k => (selP z k, gwt F k)).map fun a => if a.1 = selP z p then a.2 else 0) → 0 ≤ x := fun x hx => by
      obtain ⟨s, hs, rfl⟩ := List.mem_map.mp hx
      obtain ⟨q, hq, rfl⟩ := List.mem_map.mp hs
      have := jw.w q (sortP_mem.mp hq)
      show 0 ≤ (if selP z q = selP z p then gwt F q else 0)
      split <;> omega
    have m : gwt F p ∈ ((sortP (gkeys F)).map fun k => (selP z k, gwt F k)).map fun a => if a.1 = selP z p then a.2 else 0 := List.mem_map.mpr ⟨(selP z p, gwt F p), List.mem_map.mpr ⟨p, sortP_mem.mpr hp, rfl⟩, if_pos rfl⟩
    have := mem_le_sum nn _ m
    show 1 ≤ (((sortP (gkeys F)).map fun k => (selP z k, gwt F k)).map fun a => if a.1 = selP z p then a.2 else 0).sum
    omega
  have ie : ∀ f, IE A f = IE F1 f := fun f => by
    rw [← hA, IE_acc, IE_evJ jw, h.m]
  have wt_ie : ∀ (B : List (List Int × Int)), (keys B).Nodup → ∀ k, IE B (fun x => if x = k then 1 else 0) = wt B k := fun B nB k => by
    rw [IE_wt nB]
    by_cases hk : k ∈ keys B
    · rw [List.map_congr_left (g := fun x => if k = x then wt B k else 0) fun x _ => by
        by_cases e : x = k
        · rw [if_pos e, if_pos e.symm, e, Int.one_mul]
        · rw [if_neg e, if_neg fun z => e z.symm, Int.zero_mul]]
      exact sum_iteG nB hk
    · rw [List.map_congr_left (g := fun _ => (0 : Int)) fun x hx => by
        rw [if_neg fun z => hk (by rw [← z]; exact hx), Int.zero_mul]]
      have : wt B k = 0 := by
        unfold wt
        rw [aget_none hk]
        rfl
      rw [this]
      generalize keys B = ks
      induction ks with
      | nil => rfl
      | cons k ks ih => rw [List.map_cons, List.sum_cons, ih]; rfl
  have wts : ∀ k, wt A k = wt F1 k := fun k => by
    rw [← wt_ie A nd, ← wt_ie F1 h.sw.nd, ie]
  have kk : ∀ k, k ∈ keys A ↔ k ∈ keys F1 := fun k => by
    have zero : ∀ (B : List (List Int × Int)), k ∉ keys B → wt B k = 0 := fun B hk => by
      unfold wt
      rw [aget_none hk]
      rfl
    constructor
    · intro hk
      have := pos k hk
      exact Classical.byContradiction fun z => by
        have := zero F1 z
        rw [← wts] at this
        omega
    · intro hk
      have := h.sw.w k hk
      exact Classical.byContradiction fun z => by
        have := zero A z
        rw [wts] at this
        omega
  have sA : sumW A = gsum F := by
    have := ie fun _ => 1
    rw [← gsum_IE, ← gsum_IE] at this
    exact this.trans sm
  have spA : Spr K A (spN (gsum F) A) := ⟨fun k => lw (wt A k) (gsum F), rfl, fun k hk => by
    rw [sA]
    have a := pos k hk
    have := (sum_ge nd fun k hk => by have := pos k hk; omega).2 k hk
    exact lw_tell (by omega) s1.1 (bs_between (by omega) (by rw [← sA]; exact this) bs) bs hK⟩
  exact spA.one hS nd h.sw.nd kk fun k hk => by rw [wts, sA, sm]
/-! the steps -/
/-! one pair alone -/
end Vm
namespace Vm
open PySem L2 PySem.Spec PyProof.Rows
/-! ### a dict with plain keys that will not change any more is locked: from then on it is data -/
def fD (kvs : List (L2.Key × D)) : D := .dict (tagF :: kvs.map fun p => (kD p.1, p.2))
/-! ### what they tell -/
end Vm
namespace Vm
open PySem L2 PySem.Spec PyProof.Rows
/-! ### flows in whole numbers -/
structure FlI (n m : Nat) (gv tk : Nat → Int) (W : Nat → Nat → Bool) (l r : Nat → Int) (x : Nat → Nat → Int) : Prop where
  l0 : ∀ i, i < n → 0 ≤ l i
  r0 : ∀ j, j < m → 0 ≤ r j
  x0 : ∀ i j, i < n → j < m → 0 ≤ x i j
  w : ∀ i j, i < n → j < m → 0 < x i j → W i j = true
  row : ∀ i, i < n → l i + rs m (x i) = gv i
  col : ∀ j, j < m → r j + rs n (fun i => x i j) = tk j
/-- givers and takers reached, each with the one ahead, by ranks that rise -/
structure Rch (n m : Nat) (W : Nat → Nat → Bool) (l : Nat → Int) (x : Nat → Nat → Int) (G : List (Nat × Option Nat)) (T : List (Nat × Nat)) (tg tt : Nat → Nat) (B : Nat) : Prop where
  gn : (G.map (·.1)).Nodup
  tn : (T.map (·.1)).Nodup
  g0 : ∀ i, (i, none) ∈ G → i < n ∧ 0 < l i
  g1 : ∀ i j, (i, some j) ∈ G → i < n ∧ 0 < x i j ∧ tt j < tg i ∧ ∃ k, (j, k) ∈ T
  t1 : ∀ j i, (j, i) ∈ T → j < m ∧ W i j = true ∧ tg i < tt j ∧ ∃ p, (i, p) ∈ G
  bt : ∀ j i, (j, i) ∈ T → tt j ≤ B
  bg : ∀ i p, (i, p) ∈ G → tg i ≤ B
structure Cls (n m : Nat) (W : Nat → Nat → Bool) (l : Nat → Int) (x : Nat → Nat → Int) (G : List (Nat × Option Nat)) (T : List (Nat × Nat)) : Prop where
  c0 : ∀ i, i < n → 0 < l i → ∃ p, (i, p) ∈ G
  c1 : ∀ i p, (i, p) ∈ G → ∀ j, j < m → W i j = true → ∃ k, (j, k) ∈ T
  c2 : ∀ j k, (j, k) ∈ T → ∀ i, i < n → 0 < x i j → ∃ p, (i, p) ∈ G
theorem Rch.gin {n m : Nat} {W : Nat → Nat → Bool} {l : Nat → Int} {x : Nat → Nat → Int} {G : List (Nat × Option Nat)} {T : List (Nat × Nat)} {tg tt : Nat → Nat} {B : Nat} (h : Rch n m W l x G T tg tt B) {i : Nat} {p : Option Nat} (hi : (i, p) ∈ G) : i < n := by
  cases p with
  | none => exact (h.g0 i hi).1
  | some j => exact (h.g1 i j hi).1
/-- the road from a taker back to a giver that has something left -/
inductive Rd (G : List (Nat × Option Nat)) (T : List (Nat × Nat)) : Nat → List (Nat × Nat) → Nat → Prop
  | last {e i : Nat} : (e, i) ∈ T → (i, none) ∈ G → Rd G T e [(i, e)] i
  | step {e i j z : Nat} {P : List (Nat × Nat)} : (e, i) ∈ T → (i, some j) ∈ G → Rd G T j P z → Rd G T e ((i, e) :: P) z
section
variable {n m : Nat} {W : Nat → Nat → Bool} {l r : Nat → Int} {x : Nat → Nat → Int} {G : List (Nat × Option Nat)} {T : List (Nat × Nat)} {tg tt : Nat → Nat} {B : Nat} {gv tk : Nat → Int}
theorem Rd.rank (h : Rch n m W l x G T tg tt B) {e z : Nat} {P : List (Nat × Nat)} (hr : Rd G T e P z) : ∀ q, q ∈ P → tt q.2 ≤ tt e ∧ tg q.1 < tt e := by
  induction hr with
  | last a b =>
    intro q hq
    rw [List.mem_singleton.mp hq]
    exact ⟨Nat.le_refl _, (h.t1 _ _ a).2.2.1⟩
  | @step e i j z P a b c ih =>
    intro q hq
    have h1 := (h.t1 _ _ a).2.2.1
    have h2 := (h.g1 _ _ b).2.2.1
    rcases List.mem_cons.mp hq with rfl | hq
    · exact ⟨Nat.le_refl _, h1⟩
    · have := ih q hq
      omega
theorem Rd.inn (h : Rch n m W l x G T tg tt B) {e z : Nat} {P : List (Nat × Nat)} (hr : Rd G T e P z) : e < m ∧ z < n ∧ (z, none) ∈ G ∧ (∃ k, (e, k) ∈ T) ∧ ∀ q, q ∈ P → q.1 < n ∧ q.2 < m ∧ W q.1 q.2 = true := by
  induction hr with
  | last a b =>
    have t := h.t1 _ _ a
    exact ⟨t.1, h.gin b, b, ⟨_, a⟩, fun q hq => by
      rw [List.mem_singleton.mp hq]
      exact ⟨h.gin b, t.1, t.2.1⟩⟩
  | @step e i j z P a b c ih =>
    have t := h.t1 _ _ a
    refine ⟨t.1, ih.2.1, ih.2.2.1, ⟨_, a⟩, fun q hq => ?_⟩
    rcases List.mem_cons.mp hq with rfl | hq
    · exact ⟨h.gin b, t.1, t.2.1⟩
    · exact ih.2.2.2.2 q hq
/-- what is moved along a road -/
def pushX (gf : Nat → Option Nat) (c : Int) : (Nat → Nat → Int) → List (Nat × Nat) → Nat → Nat → Int
  | x, [] => x
  | x, q :: P => pushX gf c (match gf q.1 with
    | some j => bump (bump x q.1 q.2 c) q.1 j (-c)
    | none => bump x q.1 q.2 c) P
structure PsI (n m : Nat) (W : Nat → Nat → Bool) (y x : Nat → Nat → Int) (e z : Nat) (c : Int) : Prop where
  x0 : ∀ i j, i < n → j < m → 0 ≤ y i j
  w : ∀ i j, i < n → j < m → 0 < y i j → W i j = true
  row : ∀ i, rs m (y i) = rs m (x i) + if i = z then c else 0
  col : ∀ j, rs n (fun i => y i j) = rs n (fun i => x i j) + if j = e then c else 0
theorem push_rd (h : Rch n m W l x G T tg tt B) {gf : Nat → Option Nat} (hg : ∀ i p, (i, p) ∈ G → gf i = p) {c : Int} (c0 : 0 ≤ c) {e z : Nat} {P : List (Nat × Nat)} (hr : Rd G T e P z) :
    ∀ y : Nat → Nat → Int, (∀ i j, i < n → j < m → 0 ≤ y i j) → (∀ i j, i < n → j < m → 0 < y i j → W i j = true) → (∀ q, q ∈ P → ∀ j, gf q.1 = some j → c ≤ y q.1 j) → PsI n m W (pushX gf c y P) y e z c := by
  induction hr with
  | @last e i a b =>
    intro y y0 yw yc
    have t := h.t1 _ _ a
    have hin := h.gin b
    have gi := hg _ _ b
    show PsI n m W (match gf i with
      | some j => bump (bump y i e c) i j (-c)
      | none => bump y i e c) y e i c
    rw [gi]
    refine ⟨fun a b ha hb => ?_, fun a b ha hb q => ?_, fun a => bump_row t.1 a, fun b => bump_col hin b⟩
    · show 0 ≤ bump y i e c a b
      unfold bump
      have := y0 a b ha hb
      split <;> omega
    · by_cases z : a = i ∧ b = e
      · rw [z.1, z.2]
        exact t.2.1
      · have q : 0 < bump y i e c a b := q
        have : bump y i e c a b = y a b := by
          unfold bump
          rw [if_neg z]
        rw [this] at q
        exact yw a b ha hb q
  | @step e i j z P a b hP ih =>
    intro y y0 yw yc
    have t := h.t1 _ _ a
    have hin := h.gin b
    have gi := hg _ _ b
    have g1 := h.g1 _ _ b
    have pin := hP.inn h
    have rk := hP.rank h
    have ne : e ≠ j := fun z => by
      subst z
      omega
    have cj : c ≤ y i j := yc (i, e) (List.mem_cons_self ..) j gi
    have ym : ∀ a b, bump (bump y i e c) i j (-c) a b = if a = i ∧ b = j then y a b - c else if a = i ∧ b = e then y a b + c else y a b := fun a b => by
      unfold bump
      by_cases q : a = i ∧ b = j
      · rw [if_pos q, if_pos q, if_neg (fun z => ne (z.2.symm.trans q.2))]
        omega
      · rw [if_neg q, if_neg q]
    have ni : ∀ q, q ∈ P → q.1 ≠ i := fun q hq z => by
      have := (rk q hq).2
      rw [z] at this
      omega
    have I := ih (bump (bump y i e c) i j (-c)) (fun a b ha hb => by
      rw [ym]
      have := y0 a b ha hb
      split
      · rename_i q
        rw [q.1, q.2]
        omega
      · split <;> omega) (fun a b ha hb q => by
      rw [ym] at q
      by_cases q1 : a = i ∧ b = e
      · rw [q1.1, q1.2]
        exact t.2.1
      · refine yw a b ha hb ?_
        rw [if_neg q1] at q
        split at q
        · omega
        · exact q) (fun q hq k hk => by
      rw [ym, if_neg (fun z => ni q hq z.1), if_neg (fun z => ni q hq z.1)]
      exact yc q (List.mem_cons_of_mem _ hq) k hk)
    show PsI n m W (pushX gf c (match gf i with
      | some j => bump (bump y i e c) i j (-c)
      | none => bump y i e c) P) y e z c
    rw [gi]
    refine ⟨I.x0, I.w, fun a => ?_, fun b => ?_⟩
    · rw [I.row, bump_row pin.1 a, bump_row t.1 a]
      split <;> split <;> omega
    · rw [I.col, bump_col hin b, bump_col hin b]
      by_cases q1 : b = j
      · rw [if_pos q1, if_pos q1, if_neg (fun z => ne (z.symm.trans q1))]
        omega
      · rw [if_neg q1, if_neg q1]
        omega
/-- so much moved along a road -/
theorem FlI.push (f : FlI n m gv tk W l r x) (h : Rch n m W l x G T tg tt B) {gf : Nat → Option Nat} (hg : ∀ i p, (i, p) ∈ G → gf i = p) {c : Int} (c0 : 0 ≤ c) {e z : Nat} {P : List (Nat × Nat)} (hr : Rd G T e P z) (hc : ∀ q, q ∈ P → ∀ j, gf q.1 = some j → c ≤ x q.1 j) (cr : c ≤ r e) (cl : c ≤ l z) :
    FlI n m gv tk W (fun i => if i = z then l i - c else l i) (fun j => if j = e then r j - c else r j) (pushX gf c x P) := by
  have I := push_rd h hg c0 hr x f.x0 f.w hc
  refine ⟨fun i hi => ?_, fun j hj => ?_, I.x0, I.w, fun i hi => ?_, fun j hj => ?_⟩
  · have := f.l0 i hi
    show 0 ≤ if i = z then l i - c else l i
    split
    · rename_i q
      rw [q]
      omega
    · exact this
  · have := f.r0 j hj
    show 0 ≤ if j = e then r j - c else r j
    split
    · rename_i q
      rw [q]
      omega
    · exact this
  · rw [I.row]
    have := f.row i hi
    show (if i = z then l i - c else l i) + _ = _
    split <;> omega
  · rw [I.col]
    have := f.col j hj
    show (if j = e then r j - c else r j) + _ = _
    split <;> omega
end
end Vm
namespace Vm
open PySem L2 PySem.Spec PyProof.Rows
/-! ### dicts whose keys are places -/
section
variable {β : Type}
def keyN (L : List (Nat × β)) (k : Nat) : Prop := ∃ p, (k, p) ∈ L
theorem keyN_iff {L : List (Nat × β)} {k : Nat} : keyN L k ↔ k ∈ L.map (·.1) := by
  constructor
  · rintro ⟨p, h⟩
    exact List.mem_map.mpr ⟨(k, p), h, rfl⟩
  · intro h
    obtain ⟨⟨a, p⟩, h2, rfl⟩ := List.mem_map.mp h
    exact ⟨p, h2⟩
instance (L : List (Nat × β)) (k : Nat) : Decidable (keyN L k) := decidable_of_iff (k ∈ L.map (·.1)) keyN_iff.symm
end
/-! ### what is reached grows -/
end Vm
namespace Vm
open PySem L2 PySem.Spec PyProof.Rows
/-! ### what is reached from what is left: the walk -/
/-- midway: pend: givers not yet gone through, one: the giver gone through up to b, other: the taker gone through up to c -/
structure Mid (n m : Nat) (W : Nat → Nat → Bool) (l : Nat → Int) (x : Nat → Nat → Int) (g0 : Nat) (pend : List Nat) (one b other c : Nat) (G : List (Nat × Option Nat)) (T : List (Nat × Nat)) (behind : List Nat) : Prop where
  r : ∃ tg tt, Rch n m W l x G T tg tt (G.length + T.length)
  c0 : ∀ i, i < n → 0 < l i → keyN G i
  pin : ∀ i, i ∈ pend ∨ i ∈ behind → keyN G i
  ln : G.length = g0 + behind.length
  c1 : ∀ i, keyN G i → i ∉ pend → i ∉ behind → ∀ j, j < m → W i j = true → keyN T j
  c1b : ∀ j, j < b → W one j = true → keyN T j
  c2 : ∀ j, keyN T j → j ≠ other → ∀ i, i < n → 0 < x i j → keyN G i
  c2b : keyN T other → ∀ i, i < c → 0 < x i other → keyN G i
section
variable {n m : Nat} {W : Nat → Nat → Bool} {l : Nat → Int} {x : Nat → Nat → Int} {g0 : Nat} {pend : List Nat} {one b other c : Nat} {G : List (Nat × Option Nat)} {T : List (Nat × Nat)} {behind : List Nat} {tg tt : Nat → Nat} {B : Nat}
theorem Mid.next (h : Mid n m W l x g0 pend n 0 m 0 G T behind) (o : Nat) : Mid n m W l x g0 pend o 0 m 0 G T behind :=
  ⟨h.r, h.c0, h.pin, h.ln, h.c1, fun j q => by omega, h.c2, h.c2b⟩
theorem Mid.cls (h : Mid n m W l x g0 [] n 0 m 0 G T []) : Cls n m W l x G T := by
  obtain ⟨tg, tt, r⟩ := h.r
  refine ⟨h.c0, fun i p hp j hj hw => h.c1 i ⟨p, hp⟩ (fun z => nomatch z) (fun z => nomatch z) j hj hw, fun j k hk i hi hx => h.c2 j ⟨k, hk⟩ (by have := (r.t1 j k hk).1; omega) i hi hx⟩
/-- the givers that have something left, up to a place -/
def lefts (l : Nat → Int) (i : Nat) : List Nat := (List.range i).filter fun a => decide (0 < l a)
def start (l : Nat → Int) (i : Nat) : List (Nat × Option Nat) := (lefts l i).map fun a => (a, none)
end
end Vm
namespace Vm
open PySem L2 PySem.Spec PyProof.Rows
/-! ### the road back, and what is moved along it: the walks -/
section
variable {n m : Nat} {W : Nat → Nat → Bool} {l r : Nat → Int} {x : Nat → Nat → Int} {G : List (Nat × Option Nat)} {T : List (Nat × Nat)} {tg tt : Nat → Nat} {B : Nat} {gv tk : Nat → Int}
def RdO (G : List (Nat × Option Nat)) (T : List (Nat × Nat)) : Option Nat → List (Nat × Nat) → Prop
  | none, rs => rs = []
  | some e, rs => ∃ z, Rd G T e rs z
theorem Rd.split {e z : Nat} {P : List (Nat × Nat)} (h : Rd G T e P z) : ∃ i p rest, (e, i) ∈ T ∧ (i, p) ∈ G ∧ P = (i, e) :: rest ∧ RdO G T p rest := by
  cases h with
  | last a b => exact ⟨_, _, _, a, b, rfl, rfl⟩
  | step a b c => exact ⟨_, _, _, a, b, rfl, _, c⟩
/-! what is moved -/
end
end Vm
namespace Vm
open PySem L2 PySem.Spec PyProof.Rows
/-! ### two spreads held: the walk -/
/-- a spread by whole weights -/
structure SpH (K n b : Nat) (A : List (List Int × Int)) (W : Int) : Prop where
  ne : A ≠ []
  ld : ∀ p, p ∈ A → Ld n (b : Int) p.1
  pw : (A.map (·.1)).Pairwise (· < ·)
  w : ∀ p, p ∈ A → 1 ≤ p.2 ∧ p.2 ≤ W
  sm : (A.map (·.2)).sum = W
  bs : Bs K W
  w1 : 1 ≤ W
end Vm
namespace Vm
open PySem L2 PySem.Spec PyProof.Rows
/-! ### one spread is no fuller than another: by all rising questions -/
theorem wt_nd {F : List (List Int × Int)} (nd : (keys F).Nodup) {p : List Int × Int} (h : p ∈ F) : wt F p.1 = p.2 := by
  unfold wt
  rw [aget_nd nd h]
  rfl
/-! ### balls that come and leave keep it -/
theorem SW.mem {n b : Nat} {F : List (List Int × Int)} (h : SW n b F) {e : List Int × Int} (he : e ∈ F) : 1 ≤ e.2 ∧ Ld n (b : Int) e.1 := by
  have k : e.1 ∈ keys F := List.mem_map_of_mem he
  have := h.w _ k
  rw [wt_nd h.nd he] at this
  exact ⟨this, h.ld _ k⟩
end Vm
namespace Vm
open PySem L2 PySem.Spec PyProof.Rows
/-! ### zip of three lists; `&` of whole numbers -/
def zipD3 : List D → List D → List D → List D
  | d :: ds, e :: es, f :: fs => .tuple [d, e, f] :: zipD3 ds es fs
  | _, _, _ => []
def zip3R (a b x : Rv) (s : S) : R (List D) := match a, b, x with
  | .d (.list ds), .d (.list es), .d (.list fs) => .ok (zipD3 ds es fs) s
  | _, _, _ => .bad
def kZip3b (c : CE) (a b : Rv) (s : S) : R (List D) := (cv c s).bind (zip3R a b)
def kZip3 (c' c'' : CE) (a : Rv) (s : S) : R (List D) := (cv c' s).bind (kZip3b c'' a)
def ciZip3 (c c' c'' : CE) : CI := fun s => (cv c s).bind (kZip3 c' c'')
@[simp] theorem zip3R_l {ds es fs : List D} {s : S} : zip3R (.d (.list ds)) (.d (.list es)) (.d (.list fs)) s = .ok (zipD3 ds es fs) s := Eq.trans rfl rfl
@[simp] theorem kZip3b_s {c : CE} {a b : Rv} {s : S} : kZip3b c a b s = (cv c s).bind (zip3R a b) := Eq.trans rfl rfl
@[simp] theorem kZip3_s {c' c'' : CE} {a : Rv} {s : S} : kZip3 c' c'' a s = (cv c' s).bind (kZip3b c'' a) := Eq.trans rfl rfl
@[simp] theorem ciZip3_s {c c' c'' : CE} {s : S} : ciZip3 c c' c'' s = (cv c s).bind (kZip3 c' c'') := Eq.trans rfl rfl
end Vm
namespace Vm
open PySem L2 PySem.Spec PyProof.Rows
/-! ### a whole determinant: linear in each place, nought of two alike -/
abbrev Ve := Nat → Int
def vlin (a : Int) (x y : Ve) : Ve := fun i => a * x i + y i
def gS (f : List Ve → Int) (c : Nat) : List Ve → List Ve → Int
  | _, [] => 0
  | pre, v :: post => v c * f (pre ++ post) - gS f c (pre ++ [v]) post
def dt : Nat → Nat → List Ve → Int
  | 0, _, _ => 1
  | n + 1, c, l => gS (dt n (c + 1)) c [] l
structure MA (f : List Ve → Int) (n : Nat) : Prop where
  lin : ∀ (p q : List Ve) (a : Int) (x y : Ve), (p ++ x :: q).length = n → f (p ++ vlin a x y :: q) = a * f (p ++ x :: q) + f (p ++ y :: q)
  alt : ∀ (p q : List Ve) (x : Ve), (p ++ x :: x :: q).length = n → f (p ++ x :: x :: q) = 0
theorem gS_lin_pre {f : List Ve → Int} {n c : Nat} (h : MA f n) (a : Int) (x y : Ve) (p : List Ve) : ∀ (l q : List Ve), (p ++ x :: q).length + l.length = n + 1 → gS f c (p ++ vlin a x y :: q) l = a * gS f c (p ++ x :: q) l + gS f c (p ++ y :: q) l
  | [], q, _ => by
    unfold gS
    omega
  | v :: post, q, hl => by
    have ih := gS_lin_pre (c := c) h a x y p post (q ++ [v]) (by
      simp only [List.length_append, List.length_cons, List.length_nil] at hl ⊢
      omega)
    have e := h.lin p (q ++ post) a x y (by
      simp only [List.length_append, List.length_cons] at hl ⊢
      omega)
    simp only [gS, List.append_assoc, List.cons_append] at ih ⊢
    rw [ih, e]
    grind
theorem gS_lin {f : List Ve → Int} {n c : Nat} (h : MA f n) (a : Int) (x y : Ve) (q : List Ve) : ∀ (p pre : List Ve), pre.length + (p ++ x :: q).length = n + 1 → gS f c pre (p ++ vlin a x y :: q) = a * gS f c pre (p ++ x :: q) + gS f c pre (p ++ y :: q)
  | [], pre, hl => by
    have e := gS_lin_pre (c := c) h a x y pre q [] (by
      simp only [List.length_append, List.length_cons, List.length_nil, List.nil_append] at hl ⊢
      omega)
    simp only [List.nil_append, gS]
    rw [e]
    unfold vlin
    grind
  | v :: p, pre, hl => by
    have ih := gS_lin (c := c) h a x y q p (pre ++ [v]) (by
      simp only [List.length_append, List.length_cons, List.length_nil] at hl ⊢
      omega)
    have e := h.lin (pre ++ p) q a x y (by
      simp only [List.length_append, List.length_cons] at hl ⊢
      omega)
    simp only [List.cons_append, gS]
    rw [ih, ← List.append_assoc, e, List.append_assoc, List.append_assoc]
    grind
theorem gS_alt_pre {f : List Ve → Int} {n c : Nat} (h : MA f n) (x : Ve) (p : List Ve) : ∀ (l q : List Ve), (p ++ x :: x :: q).length + l.length = n + 1 → gS f c (p ++ x :: x :: q) l = 0
  | [], q, _ => rfl
  | v :: post, q, hl => by
    have ih := gS_alt_pre (c := c) h x p post (q ++ [v]) (by
      simp only [List.length_append, List.length_cons, List.length_nil] at hl ⊢
      omega)
    have e := h.alt p (q ++ post) x (by
      simp only [List.length_append, List.length_cons] at hl ⊢
      omega)
    simp only [gS, List.append_assoc, List.cons_append] at ih ⊢
    rw [ih, e]
    omega
theorem gS_alt {f : List Ve → Int} {n c : Nat} (h : MA f n) (x : Ve) (q : List Ve) : ∀ (p pre : List Ve), pre.length + (p ++ x :: x :: q).length = n + 1 → gS f c pre (p ++ x :: x :: q) = 0
  | [], pre, hl => by
    have e := gS_alt_pre (c := c) h x pre q [] (by
      simp only [List.length_append, List.length_cons, List.length_nil, List.nil_append] at hl ⊢
      omega)
    have e' : pre ++ [x] ++ [x] = pre ++ x :: x :: [] := by rw [List.append_assoc]; rfl
    simp only [List.nil_append, gS]
    rw [e', e, List.append_assoc]
    show _ * f (pre ++ x :: q) - (_ * f (pre ++ x :: q) - 0) = 0
    omega
  | v :: p, pre, hl => by
    have ih := gS_alt (c := c) h x q p (pre ++ [v]) (by
      simp only [List.length_append, List.length_cons, List.length_nil] at hl ⊢
      omega)
    have e := h.alt (pre ++ p) q x (by
      simp only [List.length_append, List.length_cons] at hl ⊢
      omega)
    simp only [List.cons_append, gS]
    rw [ih, ← List.append_assoc, e]
    omega
theorem dt_ma : ∀ n c : Nat, MA (dt n c) n
  | 0, c => ⟨fun p q a x y h => by simp at h, fun p q x h => by simp at h⟩
  | n + 1, c => by
    have ih := dt_ma n (c + 1)
    exact ⟨fun p q a x y h => gS_lin ih a x y q p [] (by simpa using h), fun p q x h => gS_alt ih x q p [] (by simpa using h)⟩
theorem MA.swap {f : List Ve → Int} {n : Nat} (h : MA f n) (p q : List Ve) (x y : Ve) (hl : (p ++ x :: y :: q).length = n) : f (p ++ x :: y :: q) = - f (p ++ y :: x :: q) := by
  have l2 : ∀ u v : Ve, (p ++ u :: v :: q).length = n := fun u v => by
    simp only [List.length_append, List.length_cons] at hl ⊢
    exact hl
  have e0 := h.alt p q (vlin 1 x y) (l2 _ _)
  have e1 := h.lin p (vlin 1 x y :: q) 1 x y (l2 _ _)
  have two : ∀ u : Ve, f (p ++ u :: vlin 1 x y :: q) = 1 * f (p ++ u :: x :: q) + f (p ++ u :: y :: q) := fun u => by
    have := h.lin (p ++ [u]) q 1 x y (by rw [List.append_assoc]; exact l2 _ _)
    simp only [List.append_assoc, List.cons_append, List.nil_append] at this
    exact this
  have ax := h.alt p q x (l2 _ _)
  have ay := h.alt p q y (l2 _ _)
  rw [e0, two, two, ax, ay] at e1
  omega
theorem MA.rep {f : List Ve → Int} {n : Nat} (h : MA f n) (q : List Ve) (x : Ve) : ∀ (m p : List Ve), (p ++ x :: (m ++ x :: q)).length = n → f (p ++ x :: (m ++ x :: q)) = 0
  | [], p, hl => h.alt p q x hl
  | v :: m, p, hl => by
    have ih := MA.rep h q x m (p ++ [v]) (by
      simp only [List.length_append, List.length_cons, List.length_nil] at hl ⊢
      omega)
    have s := h.swap p (m ++ x :: q) x v hl
    simp only [List.append_assoc, List.cons_append, List.nil_append] at ih
    rw [List.cons_append, s, ih]
    rfl
theorem MA.same {f : List Ve → Int} {n : Nat} (h : MA f n) {l : List Ve} (hl : l.length = n) {i j : Nat} (hij : i < j) (hj : j < l.length) (e : l[i]'(by omega) = l[j]) : f l = 0 := by
  have d1 : l = l.take i ++ l[i]'(by omega) :: l.drop (i + 1) := by
    rw [← List.drop_eq_getElem_cons (by omega), List.take_append_drop]
  have d2 : l.drop (i + 1) = (l.drop (i + 1)).take (j - i - 1) ++ l[j] :: l.drop (j + 1) := by
    have : l[j] :: l.drop (j + 1) = (l.drop (i + 1)).drop (j - i - 1) := by
      rw [List.drop_drop, show i + 1 + (j - i - 1) = j by omega, ← List.drop_eq_getElem_cons hj]
    rw [this, List.take_append_drop]
  rw [d2] at d1
  rw [← e] at d1
  rw [d1]
  exact h.rep _ _ _ _ (by rw [← d1]; exact hl)
/-! ### by places -/
def upf (b : Nat → Ve) (i : Nat) (v : Ve) : Nat → Ve := fun j => if j = i then v else b j
def bl (N : Nat) (b : Nat → Ve) : List Ve := (List.range N).map b
def dF (N : Nat) (b : Nat → Ve) : Int := dt N 0 (bl N b)
theorem bl_len {N : Nat} {b : Nat → Ve} : (bl N b).length = N := by unfold bl; rw [List.length_map, List.length_range]
theorem bl_get {N : Nat} {b : Nat → Ve} {i : Nat} (h : i < (bl N b).length) : (bl N b)[i] = b i := by
  have h' : i < ((List.range N).map b).length := h
  have e : ((List.range N).map b)[i]'h' = b i := by rw [List.getElem_map, List.getElem_range]
  exact e
theorem bl_upf {N : Nat} {b : Nat → Ve} {i : Nat} {v : Ve} (h : i < N) : bl N (upf b i v) = (bl N b).take i ++ v :: (bl N b).drop (i + 1) := by
  have : bl N (upf b i v) = (bl N b).set i v := by
    refine List.ext_getElem (by rw [List.length_set, bl_len, bl_len]) fun j h1 h2 => ?_
    rw [bl_get, List.getElem_set, bl_get]
    unfold upf
    by_cases e : i = j
    · rw [if_pos e, if_pos e.symm]
    · rw [if_neg e, if_neg (Ne.symm e)]
  rw [this, List.set_eq_take_append_cons_drop, if_pos (by rw [bl_len]; exact h)]
theorem dF_lin {N : Nat} {b : Nat → Ve} {i : Nat} {a : Int} {x y : Ve} (h : i < N) : dF N (upf b i (vlin a x y)) = a * dF N (upf b i x) + dF N (upf b i y) := by
  unfold dF
  rw [bl_upf h, bl_upf h, bl_upf h]
  refine (dt_ma N 0).lin _ _ a x y ?_
  rw [← bl_upf h, bl_len]
theorem dF_same {N : Nat} {b : Nat → Ve} {i j : Nat} (hi : i < N) (hj : j < N) (n : i ≠ j) (e : b i = b j) : dF N b = 0 := by
  unfold dF
  by_cases h : i < j
  · exact (dt_ma N 0).same bl_len h (by rw [bl_len]; exact hj) (by rw [bl_get, bl_get, e])
  · exact (dt_ma N 0).same bl_len (show j < i by omega) (by rw [bl_len]; exact hi) (by rw [bl_get, bl_get, e])
theorem upf_self {b : Nat → Ve} {i : Nat} : upf b i (b i) = b := by
  funext j
  unfold upf
  split
  · rename_i e
    rw [e]
  · rfl
def swf (b : Nat → Ve) (i j : Nat) : Nat → Ve := upf (upf b i (b j)) j (b i)
theorem dF_swap {N : Nat} {b : Nat → Ve} {i j : Nat} (hi : i < N) (hj : j < N) (n : i ≠ j) : dF N (swf b i j) = - dF N b := by
  have cm : ∀ u v : Ve, upf (upf b i u) j v = upf (upf b j v) i u := fun u v => by
    funext t
    unfold upf
    by_cases e1 : t = j
    · by_cases e2 : t = i
      · exact absurd (e2.symm.trans e1) n
      · rw [if_pos e1, if_neg e2, if_pos e1]
    · rw [if_neg e1, if_neg e1]
  have al : ∀ u : Ve, dF N (upf (upf b i u) j u) = 0 := fun u => dF_same hi hj n (by
    unfold upf
    rw [if_neg n, if_pos rfl, if_pos rfl])
  have e0 := al (vlin 1 (b i) (b j))
  rw [dF_lin hj, cm, cm, dF_lin hi, dF_lin hi, ← cm, ← cm, ← cm, ← cm, al, al] at e0
  have s : upf (upf b i (b i)) j (b j) = b := by rw [upf_self, upf_self]
  rw [s] at e0
  unfold swf
  omega
end Vm
namespace Vm
open PySem L2 PySem.Spec PyProof.Rows
/-! ### whole equations solved without fractions: a basis changed place by place -/
structure GJ (N k : Nat) (A : Nat → Ve) (M : Nat → Nat → Int) (d s : Int) (b : Nat → Ve) : Prop where
  d0 : d ≠ 0
  s1 : s = 1 ∨ s = -1
  det : dF N b = s * d
  rel : ∀ j t, d * A j t = rs N fun i => M i j * b i t
  old : ∀ i, i < k → b i = A i
def swI (k p i : Nat) : Nat := if i = k then p else if i = p then k else i
theorem rs_swI {N k p : Nat} (hk : k < N) (hp : p < N) (f : Nat → Int) : (rs N fun i => f (swI k p i)) = rs N f := by
  by_cases e : k = p
  · subst e
    refine rs_congr fun i _ => ?_
    unfold swI
    by_cases q : i = k
    · rw [if_pos q, q]
    · rw [if_neg q, if_neg q]
  have u1 := rs_upd (f := f) (j := k) (p := f p - f k) N
  have u2 := rs_upd (f := fun i => if i = k then f i + (f p - f k) else f i) (j := p) (p := f k - f p) N
  rw [if_pos hk] at u1
  rw [if_pos hp, u1] at u2
  have : (rs N fun i => f (swI k p i)) = rs N fun b => if b = p then (if b = k then f b + (f p - f k) else f b) + (f k - f p) else if b = k then f b + (f p - f k) else f b := rs_congr fun i _ => by
    unfold swI
    by_cases q : i = k
    · subst q
      rw [if_pos rfl, if_neg e, if_pos rfl]
      omega
    · rw [if_neg q]
      by_cases q2 : i = p
      · subst q2
        rw [if_pos rfl, if_pos rfl, if_neg q]
        omega
      · rw [if_neg q2, if_neg q2, if_neg q]
  rw [this, u2]
  omega
theorem swf_at {b : Nat → Ve} {k p i : Nat} : swf b k p i = b (swI k p i) := by
  unfold swf upf swI
  by_cases q : i = p
  · by_cases q2 : i = k
    · rw [if_pos q, if_pos q2, ← q, ← q2]
    · rw [if_pos q, if_neg q2, if_pos q]
  · rw [if_neg q]
    by_cases q2 : i = k
    · rw [if_pos q2, if_pos q2]
    · rw [if_neg q2, if_neg q2, if_neg q]
theorem GJ.swap {N k p : Nat} {A : Nat → Ve} {M : Nat → Nat → Int} {d s : Int} {b : Nat → Ve} (h : GJ N k A M d s b) (hk : k ≤ p) (hp : p < N) : ∃ s', GJ N k A (fun i j => M (swI k p i) j) d s' (swf b k p) := by
  have hkN : k < N := by omega
  have rel : ∀ j t, d * A j t = rs N fun i => M (swI k p i) j * swf b k p i t := fun j t => by
    rw [h.rel, ← rs_swI hkN hp]
    exact rs_congr fun i _ => by rw [swf_at]
  have old : ∀ i, i < k → swf b k p i = A i := fun i hi => by
    rw [swf_at]
    unfold swI
    rw [if_neg (by omega), if_neg (by omega)]
    exact h.old i hi
  by_cases e : k = p
  · subst e
    refine ⟨s, h.d0, h.s1, ?_, rel, old⟩
    rw [show swf b k k = b by unfold swf; rw [upf_self, upf_self]]
    exact h.det
  · refine ⟨-s, h.d0, ?_, ?_, rel, old⟩
    · rcases h.s1 with q | q <;> omega
    · rw [dF_swap hkN hp e, h.det, Int.neg_mul]
/-! ### how great a determinant is -/
end Vm
namespace Vm
open PySem L2 PySem.Spec PyProof.Rows
/-! ### the chain of loads: a ball leaves by chance, one comes by a rule -/
/-- all loads of a kind -/
structure LdA (n b : Nat) (ks : List (List Int)) : Prop where
  nd : ks.Nodup
  iff : ∀ k, k ∈ ks ↔ Ld n (b : Int) k
end Vm
namespace Vm
open PySem L2 PySem.Spec PyProof.Rows
/-! ### a ball leaves and one comes: sums over all events -/
def hF (h : List Int → Int) (F : List (List Int × Int)) : List (List Int × Int) := F.map fun p => (p.1, h p.1 * p.2)
/-! ### a common bottom, of any size -/
end Vm
namespace Vm
open PySem L2 PySem.Spec PyProof.Rows
/-! ### a spread by the law's own look -/
theorem wt_memF {F : List (List Int × Int)} (nd : (keys F).Nodup) {p : List Int × Int} (hp : p ∈ F) : wt F p.1 = p.2 := by
  unfold wt
  induction F with
  | nil => cases hp
  | cons q F ih =>
    have nd' := List.nodup_cons.mp (show (q.1 :: keys F).Nodup from nd)
    rw [aget_cons]
    rcases List.mem_cons.mp hp with rfl | hp
    · rw [if_pos rfl]
      rfl
    · rw [if_neg fun z => nd'.1 (by rw [z]; exact List.mem_map.mpr ⟨p, hp, rfl⟩)]
      exact ih nd'.2 hp
theorem SpH.nd {K n b : Nat} {F : List (List Int × Int)} {W : Int} (h : SpH K n b F W) : (keys F).Nodup := h.pw.imp fun q e => by
  rw [e] at q
  exact List.lt_irrefl _ q
theorem SpH.sw {K n b : Nat} {F : List (List Int × Int)} {W : Int} (h : SpH K n b F W) : SW n b F := by
  refine ⟨h.nd, fun z => h.ne ?_, fun k hk => ?_, fun k hk => ?_⟩
  · have : F.map (·.1) = [] := z
    exact List.map_eq_nil_iff.mp this
  · obtain ⟨p, hp, rfl⟩ := List.mem_map.mp hk
    have : wt F p.1 = p.2 := wt_memF h.nd hp
    rw [this]
    exact (h.w p hp).1
  · obtain ⟨p, hp, rfl⟩ := List.mem_map.mp hk
    exact h.ld p hp
end Vm
namespace PySem.W
open Lean Elab Tactic Meta PySem PySem.Calls PyProof.Rows PyProof.V PySem.Spec
end PySem.W
namespace Vm
open PySem L2 PySem.Spec PyProof.Rows
/-! ### what steady tells, all of it -/
theorem SW.all {n b : Nat} {F : List (List Int × Int)} {ks : List (List Int)} (h : SW n b F) (A : LdA n b ks) : F.length ≤ ks.length := by
  have := nodup_len (ys := ks) h.nd fun k hk => (A.iff k).mpr (h.ld k hk)
  unfold keys at this
  rw [List.length_map] at this
  exact this
end Vm
namespace L2
open PySem PySem.Spec PyProof.Rows
/-! ### set(list of ints) -/
end L2
namespace Vm
open PySem L2 PySem.Spec PyProof.Rows
/-! ### texts -/
/-- one sign -/
def sgn (c : Nat) : Str := ⟨#[c]⟩
/-! str(n), int(text) -/
def opIntT : Od → Option Rv
  | .d (.str a) => match PySem.intText? a with
    | some n => if a.length ≤ 640 then some (.d (.int n)) else none
    | none => none
  | _ => none
theorem s_intT {K : Fg} : Op1S K (fun v H Q => ∃ a n, [v] = [V.str a] ∧ PySem.intText? a = some n ∧ a.length ≤ 640 ∧ Q (.int n) H) opIntT := by
  intro w x o rv Q hx h e q
  unfold opIntT at e
  split at e
  · split at e
    · rename_i n hn
      split at e
      · rename_i hl
        cases e
        exact ⟨_, n, by rw [h.str], hn, hl, post_int q⟩
      · cases e
    · cases e
  · cases e
/-! a sign in a text -/
def opInSg : Od → Od → Option Rv
  | .d (.str x), .d (.str z) => match x.cps.toList with
    | [c] => some (.d (.bool (decide (c ∈ z.cps.toList))))
    | _ => none
  | _, _ => none
theorem str_one {x : Str} {c : Nat} (h : x.cps.toList = [c]) : x = ⟨#[c]⟩ := by
  cases x with
  | mk a =>
    cases a with
    | mk l =>
      have h : l = [c] := h
      rw [h]
theorem s_inSg {K : Fg} : Op2S K rInS opInSg := by
  intro w x y o o' rv Q hx h h' e q
  unfold opInSg at e
  split at e
  · split at e
    · rename_i c hc
      cases e
      refine ⟨c, _, ?_, h'.str, post_bool q⟩
      rw [h.str, str_one hc]
    · cases e
  · cases e
/-! a text so many times, none or one -/
def opMulT : Od → Od → Option Rv
  | .d (.str z), .d (.int k) => if k = 1 then some (.d (.str z)) else if k = 0 then some (.d (.str Str.empty)) else none
  | _, _ => none
theorem op_mulT {X : Cx} : OpR X (binaryOp .Mult) (fun x y H Q => ∃ z k, x = .str z ∧ y = .int k ∧ ((k = 1 ∧ Q (.str z) H) ∨ (k = 0 ∧ Q (.str Str.empty) H))) := by
  intro pins s σ H x y v u Q I rx ry h
  obtain ⟨z, k, rfl, rfl, h⟩ := h
  obtain ⟨t, rfl⟩ := rx
  obtain ⟨t', rfl⟩ := ry
  rcases h with ⟨rfl, q⟩ | ⟨rfl, q⟩
  · refine P.mul_str (by decide) (fun _ z => by simp at z) (fun _ z => by simp at z) ?_
    rw [if_neg (by decide), if_pos (by simp)]
    exact ⟨.str z, H, I, ⟨t, rfl⟩, q⟩
  · exact P.mul_str_none (by decide) (by decide) ⟨.str Str.empty, H, I.tok _, ⟨_, rfl⟩, q⟩
theorem s_mulT {K : Fg} : Op2S K (fun x y H Q => ∃ z k, x = .str z ∧ y = .int k ∧ ((k = 1 ∧ Q (.str z) H) ∨ (k = 0 ∧ Q (.str Str.empty) H))) opMulT := by
  intro w x y o o' rv Q hx h h' e q
  unfold opMulT at e
  split at e
  · split at e
    · rename_i hk
      cases e
      exact ⟨_, _, h.str, h'.int, .inl ⟨hk, post_str q⟩⟩
    · split at e
      · rename_i hk
        cases e
        exact ⟨_, _, h.str, h'.int, .inr ⟨hk, post_str q⟩⟩
      · cases e
  · cases e
section
variable {X : Cx} {ec : EC} {W : WX}
/-! the signs of a text, one behind another -/
def ciStr (c : CE) : CI := fun s => (cv c s).bind fun a s1 => match a with
  | .d (.str x) => .ok (x.cps.toList.map fun c => .str (sgn c)) s1
  | _ => .bad
theorem it_str {K : Fg} {w : Wd} {x : Str} : ItOk K w (Its x) (x.cps.toList.map fun c => .str (sgn c)) := fun w1 le e i => by
  refine ⟨fun d hd => ?_, fun hl => ?_⟩
  · rw [List.getElem?_map] at hd
    obtain ⟨c, hc, rfl⟩ := Option.map_eq_some_iff.mp hd
    have hc' : x.cps[i]? = some c := by rw [← Array.getElem?_toList]; exact hc
    have hl : i < x.cps.size := (Array.getElem?_eq_some_iff.mp hc').1
    refine ⟨hl, fun y H' hy => ?_⟩
    obtain ⟨rfl, c', hc2, rfl⟩ := hy
    rw [hc'] at hc2
    cases hc2
    exact ⟨w1, Gr.refl w1, rfl, .str _⟩
  · rw [List.length_map] at hl
    have : x.cps.size ≤ i := by
      rw [← Array.length_toList]
      exact hl
    exact this
theorem i_str {tg e : Expr} {c : CE} (h : Ex X ec W e c) : Ix X ec W tg e (ciStr c) := PI.imp (pi_str h) fun σ H R h => by
  obtain ⟨w, s, rfl, hr, h⟩ := h
  refine run_cv hr h fun x w1 s1 a le1 hr1 ha hn h1 => ?_
  cases a with
  | ref n => exact h1.elim
  | t _ _ => exact h1.elim
  | new c => exact h1.elim
  | d y =>
    have ha : Rp X.K w1.G x y := ha
    cases y with
    | str z =>
      cases ha
      exact ⟨z, rfl, h1 _ w1 le1 hr1 it_str⟩
    | none => exact h1.elim
    | bool _ => exact h1.elim
    | int _ => exact h1.elim
    | list _ => exact h1.elim
    | tuple _ => exact h1.elim
    | dict _ => exact h1.elim
/-! slices of texts -/
def opSlS : Od → Option Int → Option Int → Option Rv
  | .d (.str z), lo, hi => if z.length ≤ 16000000 then some (.d (.str (cutS z lo hi))) else none
  | _, _, _ => none
def cSlS (c : CE) (lo hi : S → R (Option Int)) : CE := fun s => (cv c s).bind fun a s1 => (lo s1).bind fun l s2 => (hi s2).bind fun u s3 => opt (a.od s3.m) fun o => opt (opSlS o l u) fun rv => .ok rv s3
theorem e_slS {e : Expr} {lo hi : Option Expr} {c : CE} {cl ch : S → R (Option Int)} {p2 pos : Pos} (he : Ex X ec W e c) (hl : PO X lo (rdO X.K ec W cl)) (hh : PO X hi (rdO X.K ec W ch)) : Ex X ec W (.Subscript e (.Slice lo hi none p2) pos) (cSlS c cl ch) :=
  (pe_slice sl_str he hl hh).imp fun σ H Q h => by
    obtain ⟨w, s, rfl, hr, h⟩ := h
    refine run_cv hr h fun x w1 s1 a le1 r1 ha hn h1 => ?_
    refine run_o r1 (Res.mono h1 (fun _ _ q => q) fun _ _ q => okE_le le1 q) fun l w2 s2 le2 r2 h2 => ?_
    refine run_o r2 (Res.mono h2 (fun _ _ q => q) fun _ _ q => okE_le le2 q) fun u w3 s3 le3 r3 h3 => ?_
    obtain ⟨o, e1, h4⟩ := h3.opt
    obtain ⟨rv, e2, h5⟩ := h4.opt
    have ho := od_of r3 (ha.le hn (le2.trans le3)) e1
    have q := post_of r3 fun z w' le r' o f => h5 z w' (((le1.trans le2).trans le3).trans le) r' o (f.back ((le1.trans le2).trans le3) le o)
    unfold opSlS at e2
    split at e2
    · split at e2
      · rename_i hz
        cases e2
        exact ⟨_, ho.str, sz16 hz, post_str q⟩
      · cases e2
    · cases e2
/-! methods of texts -/
def MsS (K : Fg) (r : V → List V → Hp → VK → Prop) (f : Str → Od → Option Rv) : Prop := ∀ (w : Wd) (a : Str) (y : V) (o : Od) (rv : Rv) (Q : VK), Same w.G w.H → OdOk K w y o → f a o = some rv → Post K w rv Q → r (.str a) [y] w.H Q
def cMs (f : Str → Od → Option Rv) (co c : CE) : CE := fun s => (cv co s).bind fun x s1 => match x with
  | .d (.str a) => (cv c s1).bind fun y s2 => opt (y.od s2.m) fun o => opt (f a o) fun rv => .ok rv s2
  | _ => .bad
theorem ms_ok {r : V → List V → Hp → VK → Prop} {f : Str → Od → Option Rv} {co c : CE} {σ : L2.St} {H : Hp} {Q : VK} (hs : MsS X.K r f) (h : rd X.K ec W (cMs f co c) σ H Q) : tM1 r (rd X.K ec W co) (rd X.K ec W c) σ H Q := by
  obtain ⟨w, s, rfl, hr, h⟩ := h
  refine run_cv hr h fun x w1 s1 a le1 hr1 ha hn h1 => ?_
  cases a with
  | ref n => exact h1.elim
  | t _ _ => exact h1.elim
  | new c => exact h1.elim
  | d y =>
    have ha : Rp X.K w1.G x y := ha
    cases y with
    | str a =>
      cases ha
      refine ⟨⟨a, rfl⟩, ?_⟩
      refine run_cv hr1 (Res.mono h1 (fun _ _ q => q) fun _ _ q => okE_le le1 q) fun y w2 s2 b le2 hr2 hb hn2 h3 => ?_
      obtain ⟨o, e1, h3⟩ := h3.opt
      obtain ⟨rv, e3, h4⟩ := h3.opt
      exact hs w2 a y o rv Q hr2.mem.ext (od_of hr2 hb e1) e3 (post_of hr2 fun z w' le r' o f => h4 z w' ((le1.trans le2).trans le) r' o (f.back (le1.trans le2) le o))
    | none => exact h1.elim
    | bool _ => exact h1.elim
    | int _ => exact h1.elim
    | list _ => exact h1.elim
    | tuple _ => exact h1.elim
    | dict _ => exact h1.elim
def fSplit (a : Str) : Od → Option Rv
  | .d (.str b) => if b.length ≠ 0 ∧ a.length ≤ 16000000 then some (.new (.l ((Txt.split a b).map .str))) else none
  | _ => none
theorem rp_strs {K : Fg} {G : Hp} : ∀ ys : List Str, RpAll K G (ys.map V.str) (ys.map PyData.str)
  | [] => .nil
  | y :: ys => .cons (.str y) (rp_strs ys)
theorem m_split {K : Fg} : MsS K (fun x xs H Q => ∃ a b, x = .str a ∧ xs = [.str b] ∧ (b.length == 0) = false ∧ a.length + 2 ≤ sizeLine ∧ rNewStrs (Txt.split a b) H Q) fSplit := by
  intro w a y o rv Q hx h e q
  unfold fSplit at e
  split at e
  · split at e
    · rename_i hz
      cases e
      have s2 : 16000002 ≤ sizeLine := by decide
      exact ⟨a, _, rfl, by rw [h.str], beq_eq_false_iff_ne.mpr hz.1, by omega, fun p hp => post_lst q (rp_strs _) hp hx⟩
    · cases e
  · cases e
def fPartT (a : Str) : Od → Option Rv
  | .d (.str b) => if b.length ≠ 0 ∧ a.length ≤ 16000000 then some (.d (.tuple [.str (Txt.partition a b).1, .str (Txt.partition a b).2.1, .str (Txt.partition a b).2.2])) else none
  | _ => none
theorem m_partT {K : Fg} : MsS K (fun x xs H Q => ∃ a b, x = .str a ∧ xs = [.str b] ∧ (b.length == 0) = false ∧ a.length ≤ sizeLine ∧ ∀ p, H p = none → Q (.ref p) (upd H p (.tup [.str (Txt.partition a b).1, .str (Txt.partition a b).2.1, .str (Txt.partition a b).2.2]))) fPartT := by
  intro w a y o rv Q hx h e q
  unfold fPartT at e
  split at e
  · split at e
    · rename_i hz
      cases e
      exact ⟨a, _, rfl, by rw [h.str], beq_eq_false_iff_ne.mpr hz.1, sz16 hz.2, fun p hp => post_tup q (.cons (.str _) (.cons (.str _) (.cons (.str _) .nil))) hp hx⟩
    · cases e
  · cases e
def strs? : List D → Option (List Str)
  | [] => some []
  | .str x :: ds => (strs? ds).map (x :: ·)
  | _ => none
theorem strs_ok : ∀ {ds : List D} {ys : List Str}, strs? ds = some ys → ds = ys.map PyData.str
  | [], ys, h => by cases h; rfl
  | .str x :: ds, ys, h => by
    obtain ⟨zs, hz, rfl⟩ := Option.map_eq_some_iff.mp h
    rw [strs_ok hz]
    rfl
  | .none :: _, _, h => by cases h
  | .bool _ :: _, _, h => by cases h
  | .int _ :: _, _, h => by cases h
  | .list _ :: _, _, h => by cases h
  | .tuple _ :: _, _, h => by cases h
  | .dict _ :: _, _, h => by cases h
theorem strs?_map : ∀ ys : List Str, strs? (ys.map PyData.str) = some ys
  | [] => rfl
  | y :: ys => by
    show (strs? (ys.map PyData.str)).map (y :: ·) = _
    rw [strs?_map ys]
    rfl
theorem rp_strs_v {K : Fg} {G : Hp} : ∀ {vs : List V} {ys : List Str}, RpAll K G vs (ys.map PyData.str) → vs = ys.map V.str
  | _, [], h => by cases h; rfl
  | _, y :: ys, h => by
    cases h with
    | cons a t =>
      cases a
      rw [rp_strs_v t]
      rfl
def fJoin (a : Str) : Od → Option Rv
  | .d (.list ds) => match strs? ds with
    | some ys => if (ys.map (·.length)).sum + ys.length * a.length ≤ 16777216 then some (.d (.str (Txt.join a ys))) else none
    | none => none
  | _ => none
theorem m_join {K : Fg} : MsS K (fun x xs H Q => ∃ a p, ∃ ys : List Str, x = .str a ∧ xs = [.ref p] ∧ (SqL K H p (ys.map V.str) ∨ SqT K H p (ys.map V.str)) ∧ (ys.map (·.length)).sum + ys.length * a.length ≤ 16777216 ∧ Q (.str (Txt.join a ys)) H) fJoin := by
  intro w a y o rv Q hx h e q
  unfold fJoin at e
  split at e
  · split at e
    · rename_i ys hy
      split at e
      · rename_i hz
        cases e
        obtain ⟨p, vs, rfl, hs, ra⟩ := h.list hx
        rw [strs_ok hy] at ra
        rw [rp_strs_v ra] at hs
        exact ⟨a, p, ys, rfl, rfl, .inl hs, hz, post_str q⟩
      · cases e
    · cases e
  · cases e
theorem e_split {o e : Expr} {co c : CE} {apos pos : Pos} (ho : Ex X ec W o co) (he : Ex X ec W e c) (hs : starEach [e] X.env = [(false, eval e X.env)] := by rfl) (hbase : attributeBase o "split" X.env (eval o X.env) = eval o X.env := by rfl) (hline : (apos.endLine == pos.line) = true := by rfl) : Ex X ec W (.Call (.Attribute o "split" apos) [e] [] pos) (cMs fSplit co c) :=
  (pe_split ho he hs hbase hline).imp fun σ H Q h => ms_ok m_split h
theorem e_partT {o e : Expr} {co c : CE} {apos pos : Pos} (ho : Ex X ec W o co) (he : Ex X ec W e c) (hs : starEach [e] X.env = [(false, eval e X.env)] := by rfl) (hbase : attributeBase o "partition" X.env (eval o X.env) = eval o X.env := by rfl) (hline : (apos.endLine == pos.line) = true := by rfl) : Ex X ec W (.Call (.Attribute o "partition" apos) [e] [] pos) (cMs fPartT co c) :=
  (pe_partition ho he hs hbase hline).imp fun σ H Q h => ms_ok m_partT h
theorem e_join {o e : Expr} {co c : CE} {apos pos : Pos} (ho : Ex X ec W o co) (he : Ex X ec W e c) (hs : starEach [e] X.env = [(false, eval e X.env)] := by rfl) (hbase : attributeBase o "join" X.env (eval o X.env) = eval o X.env := by rfl) (hline : (apos.endLine == pos.line) = true := by rfl) : Ex X ec W (.Call (.Attribute o "join" apos) [e] [] pos) (cMs fJoin co c) :=
  (pe_join ho he hs hbase hline).imp fun σ H Q h => ms_ok m_join h
end
end Vm
namespace Vm
open PySem L2 PySem.Spec PyProof.Rows
/-! ### two defs handed to a def that calls them -/
abbrev EC.fn2 (ec : EC) (a b : Addr) : EC := { ec with lf := a, lf2 := b }
theorem Mem.fn2 {ec : EC} {K : Fg} {w : Wd} {m : List Cell} (h : Mem ec K w m) (a b : Addr) : Mem (ec.fn2 a b) K w m :=
  ⟨h.ext, h.len, h.nd, h.cell, h.fo, h.tab, h.inv, h.gt, h.nv⟩
theorem Mem.unfn2 {ec : EC} {a b : Addr} {K : Fg} {w : Wd} {m : List Cell} (h : Mem (ec.fn2 a b) K w m) : Mem ec K w m :=
  ⟨h.ext, h.len, h.nd, h.cell, h.fo, h.tab, h.inv, h.gt, h.nv⟩
theorem ExcF.fn2 {K : Fg} {mg : Str → Option Value} {ec : EC} {x : Str} {n : String} (h : ExcF K mg ec x n) (a b : Addr) : ExcF K mg (ec.fn2 a b) x n := ⟨h.g, h.x, h.k, h.b, h.t⟩
theorem IsF.fn2 {K : Fg} {mg : Str → Option Value} {ec : EC} {x : Str} {n : String} (h : IsF K mg ec x n) (a b : Addr) : IsF K mg (ec.fn2 a b) x n := ⟨h.ex⟩
theorem CatF.fn2 {K : Fg} {mg : Str → Option Value} {ec : EC} {x : Str} {L : List String} (h : CatF K mg ec x L) (a b : Addr) : CatF K mg (ec.fn2 a b) x L := ⟨h.ex⟩
theorem args_to {ec ec' : EC} {K : Fg} {w : Wd} {vs : List V} {as : List Sl} (h : ArgsOk ec K w vs as) : as.all Sl.isD = true → ArgsOk ec' K w vs as := by
  induction h with
  | nil => exact fun _ => .nil
  | cons r t ih =>
    rename_i v sl vs as
    intro hd
    rw [List.all_cons, Bool.and_eq_true] at hd
    refine .cons ?_ (ih hd.2)
    cases sl with
    | d x => exact r
    | u => cases hd.1
    | c n => cases hd.1
    | t _ _ => cases hd.1
    | x n => cases hd.1
    | f => cases hd.1
    | f2 => cases hd.1
theorem FOk.fn2 {K : Fg} {ec : EC} {a b : Addr} {Q : VK} {E : XK} {w : Wd} {rf : RF} (h : FOk K ec Q E w rf) : FOk K (ec.fn2 a b) Q E w rf := by
  cases rf with
  | bad => exact h
  | ex n m' => exact fun w2 le2 m2 => h w2 le2 m2.unfn2
  | ok x m' => exact fun y w2 le2 m2 o fr => h y w2 le2 m2.unfn2 o fr
theorem FOk.unfn2 {K : Fg} {ec : EC} {a b : Addr} {Q : VK} {E : XK} {w : Wd} {rf : RF} (h : FOk K (ec.fn2 a b) Q E w rf) : FOk K ec Q E w rf := by
  cases rf with
  | bad => exact h
  | ex n m' => exact fun w2 le2 m2 => h w2 le2 (m2.fn2 a b)
  | ok x m' => exact fun y w2 le2 m2 o fr => h y w2 le2 (m2.fn2 a b) o fr
def cCallFn2 (f : Fn) (cl : CL) : CE := fun s => (cl s).bind fun as s1 => if as.all Sl.isD = true then (f (.f :: .f2 :: as) []).pure s1 else .bad
/-- the second name that holds a def is asked -/
def cAskF2 (i : Nat) (f : Fn) (cl : CL) : CE := fun s => match s.v[i]? with
  | some .f2 => cCallP f cl s
  | _ => .bad
/-- a name, perhaps of a def: is it None -/
def cIsNf (i : Nat) : CE := fun s => match s.v[i]? with
  | some .f => .ok (.d (.bool false)) s
  | some .f2 => .ok (.d (.bool false)) s
  | some (.d x) => .ok (.d (.bool (isNone x))) s
  | _ => .bad
/-- what is not reached -/
def cNo : CE := fun _ => .bad
section
variable {X : Cx} {ec : EC} {W : WX}
theorem e_no {e : Expr} : Ex X ec W e cNo := ⟨fun pins s σ H Q I h => by
  obtain ⟨w, s0, _, _, h⟩ := h
  exact h.elim⟩
theorem isNf_rd {i : Nat} {σ : L2.St} {H : Hp} {Q : VK} (h : rd X.K ec W (cIsNf i) σ H Q) : ∃ v, σ[i]? = some (some v) ∧ ((V.non = V.non ∧ Q (.bl (decide (v = .non))) H) ∨ ∃ a b, v = .bl a ∧ V.non = .bl b ∧ Q (.bl (decide (a = b))) H) := by
  obtain ⟨w, s, rfl, hr, h⟩ := h
  unfold cIsNf at h
  split at h
  · rename_i e
    exact ⟨_, hr.slot i _ e, .inl ⟨rfl, h (.bl false) w (Le.refl w) hr (.bl _) .d⟩⟩
  · rename_i e
    exact ⟨_, hr.slot i _ e, .inl ⟨rfl, h (.bl false) w (Le.refl w) hr (.bl _) .d⟩⟩
  · rename_i y e
    obtain ⟨v, e2, rp⟩ := hr.slot i _ e
    refine ⟨v, e2, .inl ⟨rfl, ?_⟩⟩
    have : decide (v = .non) = isNone y := by cases rp <;> rfl
    have q := h (.bl (isNone y)) w (Le.refl w) hr (.bl _) .d
    rw [← this] at q
    exact q
  · exact h.elim
theorem e_isNf (i : Nat) {x : Str} {p p2 pos : Pos} {k : Nat} (hN : X.N[i]? = some x := by rfl) (hv : Vis X.env.scope x := by first | exact Or.inl rfl | exact Or.inr (Or.inl rfl) | exact Or.inr (Or.inr rfl)) (hd : (x == ("__debug__" : Str)) = false := by decide)
    (hcd : (x == ("__classdict__" : Str)) = false := by decide) : Ex X ec W (.Compare (.Name x p) [.Is] [.Constant .none k p2] pos) (cIsNf i) :=
  (pe_cmpR op_isV (pe_var hN hv hd hcd) pe_non (by first | exact nomark _ | rfl)).imp fun σ H Q h => by
    obtain ⟨v, e, q⟩ := isNf_rd h
    exact ⟨v, e, q⟩
theorem e_globS {x : Str} {i : Str} {pos : Pos} (h : ∃ t, X.mg x = some (.str i t)) (hg : Gl X x := by rfl) (hb : (x == ("__debug__" : Str)) = false := by decide) : Ex X ec W (.Name x pos) (cC (.str i)) := by
  obtain ⟨t, h⟩ := h
  exact e_glob (v := .str i) h ⟨t, rfl⟩ (fun _ => .str i) hg hb
theorem e_callFn2 {k n : Nat} {fa fb : Addr} {ps : List Str} {f : Fn} {x y z : Str} {p p2 p3 pos : Pos} {e : Expr} {es : List Expr} {cl : CL} (C : Cal X.prog X.w X.K X.mg X.base (ec.fn2 fa fb) x ps f k) (hy : X.mg y = some (.ref fa)) (hz : X.mg z = some (.ref fb)) (hr : Rg k X.A)
    (tk : Takes X W) (ha : PA X (e :: es) (rdL X.K ec W cl)) (hl : LLen n cl) (hn : ps.length = n + 2 := by rfl) (hg : Gl X x := by rfl) (hgy : Gl X y := by rfl) (hgz : Gl X z := by rfl) (hdb : (x == ("__debug__" : Str)) = false := by decide) (hdy : (y == ("__debug__" : Str)) = false := by decide) (hdz : (z == ("__debug__" : Str)) = false := by decide)
    (he : starEach (.Name y p2 :: .Name z p3 :: e :: es) X.env = (false, eval (.Name y p2) X.env) :: starEach (.Name z p3 :: e :: es) X.env := by rfl) (he2 : starEach (.Name z p3 :: e :: es) X.env = (false, eval (.Name z p3) X.env) :: starEach (e :: es) X.env := by rfl)
    (hpl : (backTo pos (starEach (.Name z p3 :: e :: es) X.env)).any (·.1) = false := by rfl) (hw : Bas ec.w := by assumption) : Ex X ec W (.Call (.Name x p) (.Name y p2 :: .Name z p3 :: e :: es) [] pos) (cCallFn2 f cl) := by
  obtain ⟨fa', fd, oc, od, osl, lk, F, hm, hk, hb⟩ := C
  exact (pe_callG F hr hg hm hk hb (fun σ => passAt tk σ) (pa_cons (pe_glob hgy hy (v := .ref fa) rfl hdy) (pa_cons (pe_glob hgz hz (v := .ref fb) rfl hdz) ha he2) he) hdb he hpl).imp fun σ H Q h => by
    obtain ⟨w, s, rfl, hr, h⟩ := h
    refine ⟨w, s, rfl, hr, ?_⟩
    unfold cCallFn2 at h
    cases e1 : cl s with
    | bad => rw [e1] at h; exact h
    | ex n s' => rw [e1] at h; exact h
    | ok as s1 =>
      rw [e1] at h
      intro vs w1 le1 r1 ao
      have h1 : Res (okV ec X.K w σ Q) (okE X.K ec W σ w) (if as.all Sl.isD = true then (f (.f :: .f2 :: as) []).pure s1 else .bad) := h
      by_cases hd : as.all Sl.isD = true
      · rw [if_pos hd] at h1
        refine ⟨by rw [List.length_cons, List.length_cons, paired_len ao, hl _ _ _ e1, hn], ⟨w1.G, [], fun p => w1.F p ∨ (p ∈ w1.r ∧ w1.G p = none), w1.H⟩, [], .f :: .f2 :: as, rfl, (mem_in hw r1).fn2 fa fb, .cons rfl (.cons rfl (args_to (args_data (w := w1) (w' := ⟨w1.G, [], fun p => w1.F p ∨ (p ∈ w1.r ∧ w1.G p = none), w1.H⟩) rfl ao hd) hd)), (back_of le1 r1 h1).fn2⟩
      · rw [if_neg hd] at h1
        exact h1.elim
/-- a name that holds a def is asked, the start of two defs -/
theorem ask_ok {k i : Nat} {sl : Sl} {fc fa fb : Addr} {ps : List Str} {f : Fn} {x a : Str} {p pos : Pos} {e : Expr} {es : List Expr} {cl : CL} (C : Cal X.prog X.w X.K X.mg X.base ec x ps f k) (hfc : X.mg x = some (.ref fc)) (hr : Rg k X.A)
    (tk : Takes X W) (ha : PA X (e :: es) (rdL X.K (ec.fn2 fa fb) W cl)) (hl : LLen ps.length cl) (hN : X.N[i]? = some a) (hv : Vis X.env.scope a) (hd : (a == ("__debug__" : Str)) = false)
    (hcd : (a == ("__classdict__" : Str)) = false) (he : starEach (e :: es) X.env = (false, eval e X.env) :: starEach es X.env)
    (hpl : (backTo pos (starEach es X.env)).any (·.1) = false) (hw : Bas ec.w) (c : CE) (hc : ∀ s : S, c s = .bad ∨ (s.v[i]? = some sl ∧ c s = cCallP f cl s)) (hsl : ∀ (w : Wd) (y : Option (Option V)), SlOk (ec.fn2 fa fb) X.K w y sl → y = some (some (.ref fc))) : Ex X (ec.fn2 fa fb) W (.Call (.Name a p) (e :: es) [] pos) c := by
  obtain ⟨fa', fd, oc, od, osl, lk, F, hm, hk, hb⟩ := C
  have efa : fa' = fc := by
    rw [hfc] at hm
    cases hm
    rfl
  subst efa
  constructor
  intro pins s σ H Q I h
  obtain ⟨w, s0, rfl, hrel, h⟩ := h
  rcases hc s0 with hc | ⟨hs, hc⟩
  · rw [hc] at h
    exact h.elim
  rw [hc] at h
  have hσ : σ[i]? = some (some (.ref fa')) := hsl w _ (hrel.slot i _ hs)
  refine wpAny_Call_Name_kw (thn ((pe_var (X := X) (pos := p) (i := i) hN hv hd hcd).run pins s σ w.H (fun v H1 => v = .ref fa' ∧ H1 = w.H) I ⟨.ref fa', hσ, rfl, rfl⟩) fun u s1 ⟨v, H1, I1, r1, q1⟩ => ?_)
  obtain ⟨ev, eH⟩ := q1
  subst ev
  rw [eH] at I1
  obtain rfl : u = Value.ref fa' := r1
  refine PySem.W.callWith_K (h₀ := X.base) I1.ok.mod.kin hk (thn (ha.run pos pins s1 σ w.H (fun vs H2 => spF X.K ec ps.length f vs H2 Q (fun cls d H' => W cls d σ H')) I1 ?_) fun us s2 ⟨vs, H2, J2, rv, q⟩ => ⟨J2.kIn, run_fnG F hr hb (passAt tk σ) J2 rv q⟩) he hpl
  refine ⟨w, s0, rfl, hrel, ?_⟩
  unfold cCallP at h
  cases e1 : cl s0 with
  | bad => rw [e1] at h; exact h
  | ex n s' => rw [e1] at h; exact h
  | ok as s1' =>
    rw [e1] at h
    intro vs w1 le1 r1' ao
    have h1 : Res (okV (ec.fn2 fa fb) X.K w σ Q) (okE X.K (ec.fn2 fa fb) W σ w) (if as.all Sl.isD = true then (f as []).pure s1' else .bad) := h
    by_cases hdd : as.all Sl.isD = true
    · rw [if_pos hdd] at h1
      have hw2 : Bas (ec.fn2 fa fb).w := hw
      refine ⟨by rw [paired_len ao]; exact hl _ _ _ e1, ⟨w1.G, [], fun p => w1.F p ∨ (p ∈ w1.r ∧ w1.G p = none), w1.H⟩, [], as, rfl, (mem_in hw2 r1').unfn2, ?_, (back_of le1 r1' h1).unfn2⟩
      exact args_to (args_data (w := w1) (w' := ⟨w1.G, [], fun p => w1.F p ∨ (p ∈ w1.r ∧ w1.G p = none), w1.H⟩) rfl ao hdd) hdd
    · rw [if_neg hdd] at h1
      exact h1.elim
theorem e_ask21 {k i : Nat} {fa fb : Addr} {ps : List Str} {f : Fn} {x a : Str} {p pos : Pos} {e : Expr} {es : List Expr} {cl : CL} (C : Cal X.prog X.w X.K X.mg X.base ec x ps f k) (hfa : X.mg x = some (.ref fa)) (hr : Rg k X.A)
    (tk : Takes X W) (ha : PA X (e :: es) (rdL X.K (ec.fn2 fa fb) W cl)) (hl : LLen ps.length cl) (hN : X.N[i]? = some a := by rfl) (hv : Vis X.env.scope a := by first | exact Or.inl rfl | exact Or.inr (Or.inl rfl) | exact Or.inr (Or.inr rfl)) (hd : (a == ("__debug__" : Str)) = false := by decide)
    (hcd : (a == ("__classdict__" : Str)) = false := by decide) (he : starEach (e :: es) X.env = (false, eval e X.env) :: starEach es X.env := by rfl)
    (hpl : (backTo pos (starEach es X.env)).any (·.1) = false := by rfl) (hw : Bas ec.w := by assumption) : Ex X (ec.fn2 fa fb) W (.Call (.Name a p) (e :: es) [] pos) (cAskF i f cl) :=
  ask_ok (sl := .f) C hfa hr tk ha hl hN hv hd hcd he hpl hw _ (fun s => by
    unfold cAskF
    split
    · rename_i h
      exact .inr ⟨h, rfl⟩
    · exact .inl rfl) fun _ _ h => h
theorem e_ask22 {k i : Nat} {fa fb : Addr} {ps : List Str} {f : Fn} {x a : Str} {p pos : Pos} {e : Expr} {es : List Expr} {cl : CL} (C : Cal X.prog X.w X.K X.mg X.base ec x ps f k) (hfb : X.mg x = some (.ref fb)) (hr : Rg k X.A)
    (tk : Takes X W) (ha : PA X (e :: es) (rdL X.K (ec.fn2 fa fb) W cl)) (hl : LLen ps.length cl) (hN : X.N[i]? = some a := by rfl) (hv : Vis X.env.scope a := by first | exact Or.inl rfl | exact Or.inr (Or.inl rfl) | exact Or.inr (Or.inr rfl)) (hd : (a == ("__debug__" : Str)) = false := by decide)
    (hcd : (a == ("__classdict__" : Str)) = false := by decide) (he : starEach (e :: es) X.env = (false, eval e X.env) :: starEach es X.env := by rfl)
    (hpl : (backTo pos (starEach es X.env)).any (·.1) = false := by rfl) (hw : Bas ec.w := by assumption) : Ex X (ec.fn2 fa fb) W (.Call (.Name a p) (e :: es) [] pos) (cAskF2 i f cl) :=
  ask_ok (sl := .f2) C hfb hr tk ha hl hN hv hd hcd he hpl hw _ (fun s => by
    unfold cAskF2
    split
    · rename_i h
      exact .inr ⟨h, rfl⟩
    · exact .inl rfl) fun _ _ h => h
end
end Vm
namespace Vm
open PySem L2 PySem.Spec PyProof.Rows TL
/-! ### whole numbers as texts -/
def SN (i : Int) : Str := toString i
def sgL (i : Int) : List Nat := if i < 0 then 45 :: numL i.natAbs else numL i.natAbs
theorem tl_nat (n : Nat) : tl (SN (n : Int)) = numL n := tl_num n
theorem tl_SN (i : Int) : tl (SN i) = sgL i := by
  cases i with
  | ofNat n =>
    have h : ¬ (Int.ofNat n < 0) := by
      have := Int.natCast_nonneg n
      show ¬ ((n : Int) < 0)
      omega
    unfold sgL
    rw [if_neg h]
    exact tl_num n
  | negSucc m =>
    have h : Int.negSucc m < 0 := Int.negSucc_lt_zero m
    unfold sgL
    rw [if_pos h]
    show (Str.ofString (toString (Int.negSucc m))).cps.toList = _
    have e : toString (Int.negSucc m) = "-" ++ Nat.repr (m + 1) := rfl
    rw [e, signs_ofString, String.toList_append, List.map_append, Nat.toList_repr]
    rfl
/-- the text of a number below 0 -/
theorem SN_neg {i : Int} (h : i < 0) : tl (SN i) = 45 :: tl (SN (-i)) := by
  obtain ⟨n, hn⟩ : ∃ n : Nat, -i = (n : Int) := ⟨(-i).toNat, by omega⟩
  rw [tl_SN, hn, tl_nat]
  unfold sgL
  rw [if_pos h]
  congr 2
  omega
theorem numL_head {n : Nat} (h : 1 ≤ n) : ∃ c r, numL n = c :: r ∧ 49 ≤ c ∧ c ≤ 57 := by
  induction n using Nat.strongRecOn with
  | _ n ih =>
    by_cases h10 : n < 10
    · exact ⟨48 + n, [], numL_lt h10, by omega, by omega⟩
    · obtain ⟨c, r, e, h1, h2⟩ := ih (n / 10) (by omega) (by omega)
      rw [numL_step (by omega), e]
      exact ⟨c, r ++ [48 + n % 10], rfl, h1, h2⟩
theorem len_bits {i : Int} (h : i.natAbs < 10 ^ 600) : (SN i).length ≤ 601 := by
  rw [len_tl, tl_SN]
  have := numL_len (n := i.natAbs) (k := 600) (by decide) h
  unfold sgL
  split
  · rw [List.length_cons]
    omega
  · omega
theorem bs_ten {K : Nat} {i : Int} (h : Bs K i) (hK : K ≤ 1900) : i.natAbs < 10 ^ 600 := by
  have h : i.natAbs < 2 ^ K := h
  have e : (2 : Nat) ^ K ≤ 2 ^ 1900 := Nat.pow_le_pow_right (by decide) hK
  have e2 : (2 : Nat) ^ 1900 ≤ 10 ^ 600 := by decide +kernel
  omega
@[simp] theorem opEq_str {a b : Str} : opEq (.d (.str a)) (.d (.str b)) = some (.d (.bool (decide (a = b)))) := by
  have e : PyData.eqv (.str a) (.str b) = decide (a = b) := by
    show (a == b) = decide (a = b)
    by_cases h : a = b
    · subst h
      simp
    · rw [decide_eq_false h]
      exact beq_eq_false_iff_ne.mpr h
  show some (Rv.d (.bool (PyData.eqv (.str a) (.str b)))) = _
  rw [e]
@[simp] theorem opNe_str {a b : Str} : opNe (.d (.str a)) (.d (.str b)) = some (.d (.bool (!decide (a = b)))) := by
  have e : PyData.eqv (.str a) (.str b) = decide (a = b) := by
    show (a == b) = decide (a = b)
    by_cases h : a = b
    · subst h
      simp
    · rw [decide_eq_false h]
      exact beq_eq_false_iff_ne.mpr h
  show some (Rv.d (.bool (!PyData.eqv (.str a) (.str b)))) = _
  rw [e]
theorem opStr_n {K : Nat} {i : Int} (h : Bs K i) (hK : K ≤ 1900) : opStr (.d (.int i)) = some (.d (.str (SN i))) := by
  have k := Kd.int (b := true) h (by omega)
  exact opStr_i (k.ok (by omega) (by decide))
theorem opIx_str {z : Str} {i : Nat} {c : Nat} (hl : z.length ≤ 16000000) (h : (tl z)[i]? = some c) : opIx (.d (.str z)) (.d (.int (i : Nat))) = some (.d (.str (sgn c))) := by
  have e : atI z.cps.toList (i : Int) = some c := atI_nat (by omega) (by rw [Int.toNat_natCast]; exact h)
  show (if z.length ≤ 16000000 then (match atI z.cps.toList (i : Int) with
    | some c => some (Rv.d (.str ⟨#[c]⟩))
    | none => none) else none) = _
  rw [if_pos hl, e]
  rfl
theorem tl_sgn (c : Nat) : tl (sgn c) = [c] := rfl
theorem opSlS_s {z : Str} {lo hi : Option Int} (hl : z.length ≤ 16000000) : opSlS (.d (.str z)) lo hi = some (.d (.str (cutS z lo hi))) := by
  show (if z.length ≤ 16000000 then some (Rv.d (.str (cutS z lo hi))) else none) = _
  rw [if_pos hl]
theorem cutS_one {z : Str} {c : Nat} {r : List Nat} (h : tl z = c :: r) : cutS z none (some 1) = sgn c := by
  apply ext_tl
  show ((tl z).drop 0).take _ = [c]
  have hl : z.length = r.length + 1 := by rw [len_tl, h, List.length_cons]
  have e : HT.sIx z.length z.length (some 1) = 1 := by
    have := HT.sIx_nat z.length z.length 1
    rw [show ((1 : Nat) : Int) = 1 from rfl] at this
    rw [this]
    omega
  rw [e, h]
  rfl
theorem cutS_rest {z : Str} {c : Nat} {r : List Nat} (h : tl z = c :: r) : tl (cutS z (some 1) none) = r := by
  show ((tl z).drop (HT.sIx z.length 0 (some 1))).take _ = r
  have hl : z.length = r.length + 1 := by rw [len_tl, h, List.length_cons]
  have e : HT.sIx z.length 0 (some 1) = 1 := by
    have := HT.sIx_nat z.length 0 1
    rw [show ((1 : Nat) : Int) = 1 from rfl] at this
    rw [this]
    omega
  rw [e, h]
  show (r.take (z.length - 1)) = r
  rw [List.take_of_length_le (by omega)]
@[simp] theorem cMs_s {f : Str → Od → Option Rv} {co c : CE} {s s1 s2 : S} {a : Str} {y : D} {rv : Rv} (h1 : cv co s = .ok (.d (.str a)) s1) (h2 : cv c s1 = .ok (.d y) s2) (h3 : f a (.d y) = some rv) : cMs f co c s = .ok rv s2 := by
  unfold cMs
  rw [h1]
  show (cv c s1).bind _ = _
  rw [h2]
  show opt (f a (.d y)) _ = _
  rw [h3]
  rfl
def FIG : Str := "0123456789"
theorem fig_tl : tl FIG = [48, 49, 50, 51, 52, 53, 54, 55, 56, 57] := by decide +kernel
theorem fig_in {c : Nat} (h1 : 48 ≤ c) (h2 : c ≤ 57) : c ∈ FIG.cps.toList := by
  show c ∈ tl FIG
  rw [fig_tl]
  have : c = 48 ∨ c = 49 ∨ c = 50 ∨ c = 51 ∨ c = 52 ∨ c = 53 ∨ c = 54 ∨ c = 55 ∨ c = 56 ∨ c = 57 := by omega
  rcases this with h | h | h | h | h | h | h | h | h | h <;> rw [h] <;> decide
theorem opInSg_fig {c : Nat} (h1 : 48 ≤ c) (h2 : c ≤ 57) : opInSg (.d (.str (sgn c))) (.d (.str FIG)) = some (.d (.bool true)) := by
  show some (Rv.d (.bool (decide (c ∈ FIG.cps.toList)))) = _
  rw [decide_eq_true (fig_in h1 h2)]
theorem ciStr_s {c : CE} {s s1 : S} {z : Str} (h : cv c s = .ok (.d (.str z)) s1) : ciStr c s = .ok ((tl z).map fun c => .str (sgn c)) s1 := by
  unfold ciStr
  rw [h]
  rfl
/-! ### the program's reader of numbers -/
def cNumberIn : CS :=
 (cSeq (cIfS (tOr' (cB (cOp2 opEq (cVar 0) (cC (.str "")))) (tOr' (tNot' (cTru (cOp1 opAll (cLc [1] (ciStr (cVar 0)) (tgN 1) ctYes (cOp2 opInSg (cVar 1) (cC (.str "0123456789"))))))) (tAnd' (cB (cOp2 opEq (cOp2 opIx (cVar 0) (cC (.int 0))) (cC (.str "0")))) (cB (cOp2 opNe (cVar 0) (cC (.str "0")))))))
 (cRaise "NoText")
 cNx)
 (cRet (cOp1 opIntT (cVar 0))))
def fNumberIn : Fn := runF 2 cNumberIn
theorem str_empty {z : Str} (h : tl z ≠ []) : z ≠ ("" : Str) := fun e => h (by rw [e]; decide)
theorem numberIn_ok {n : Nat} (hn : n < 10 ^ 600) : fNumberIn [.d (.str (SN (n : Int)))] [] = .ok (.d (.int (n : Int))) [] := by
  have hl := len_bits (i := (n : Int)) (by omega)
  have ht := tl_nat n
  have hne := str_empty (z := SN (n : Int)) (by rw [ht]; exact numL_ne n)
  have e0 : PySem.intText? (SN (n : Int)) = some (n : Int) := int_num (n := n) (by have := numL_len (n := n) (k := 600) (by decide) hn; omega)
  have it : opIntT (.d (.str (SN (n : Int)))) = some (.d (.int (n : Int))) := by
    unfold opIntT
    dsimp only
    rw [e0]
    dsimp only
    rw [if_pos (by omega)]
  obtain ⟨w, hw⟩ : ∃ w, SN (n : Int) = w := ⟨_, rfl⟩
  have w0 : n = 0 → w = ("0" : Str) := fun h => by
    subst h
    rw [← hw]
    decide +kernel
  rw [hw] at hl ht hne it ⊢
  clear e0 hw
  apply Ok.eq
  show Ok (fNumberIn [.d (.str w)] []) _
  unfold fNumberIn
  apply run_ok
  unfold cNumberIn
  let S0 : S := ⟨[.d (.str w), .u], []⟩
  have lc := lc_for (own := [1]) (ci := ciStr (cVar 0)) (tg := tgN 1) (el := cOp2 opInSg (cVar 1) (cC (.str "0123456789"))) (s := S0) (s1 := S0) (xs := tl w) (F := fun c => PyData.str (sgn c)) (fun _ => .bool true) (ciStr_s (by simp [S0])) (by rw [← len_tl]; omega) fun c hc => by
    rw [ht] at hc
    have r := numL_digits n c hc
    have := opInSg_fig r.1 r.2
    exact ⟨⟨[.d (.str w), .d (.str (sgn c))], []⟩, rfl, [.d (.str w), .d (.str (sgn c))], by simp [FIG, S0] at this ⊢; simp [this]⟩
  have al := opAll_b (p := fun _ : Nat => true) (xs := tl w)
  rw [List.all_eq_true.mpr fun _ _ => rfl] at al
  generalize (tl w).map (fun _ => PyData.bool true) = z at *
  obtain ⟨c, r, ec⟩ : ∃ c r, numL n = c :: r := List.exists_cons_of_ne_nil (numL_ne n)
  have ix := opIx_str (z := w) (i := 0) (c := c) (by omega) (by rw [ht, ec]; rfl)
  have ix : opIx (.d (.str w)) (.d (.int 0)) = some (.d (.str (sgn c))) := ix
  simp only [S0] at lc
  refine w_sif (x := false) (s1 := S0) ?_ (fun z => nomatch z) fun _ => w_nxS ?_
  · by_cases h : n = 0
    · have := w0 h
      simp [S0, hne, lc, al, ix, this]
      exact .rfl
    · obtain ⟨c', r', e2, h1, h2⟩ := numL_head (n := n) (by omega)
      rw [ec] at e2
      cases e2
      have hc : ¬ sgn c = ("0" : Str) := fun e => by
        have := congrArg tl e
        rw [tl_sgn] at this
        have e0 : tl ("0" : Str) = [48] := by decide
        rw [e0] at this
        cases this
        omega
      simp [S0, hne, lc, al, ix, hc]
      exact .rfl
  · exact w_ret (x := .d (.int (n : Int))) (s1 := S0) (by simp [S0, it]; exact .rfl) (ok_0 ⟨rfl, rfl⟩)
theorem SN_free {i : Int} {s : Nat} (h : s < 48 ∨ 57 < s) (h2 : s ≠ 45) : s ∉ tl (SN i) := by
  rw [tl_SN]
  unfold sgL
  split
  · intro m
    rcases List.mem_cons.mp m with m | m
    · exact h2 m
    · exact numL_free h m
  · exact numL_free h
def cSignedIn : CS :=
 (cSeq (cIfS (cB (cOp2 opNe (cSlS (cVar 0) (cPt none) (cPt (some (cC (.int 1))))) (cC (.str "-"))))
 (cRet (cCallP fNumberIn (lCons (cVar 0) lNil)))
 cNx)
 (cSeq (cSet 1 (cCallP fNumberIn (lCons (cSlS (cVar 0) (cPt (some (cC (.int 1)))) (cPt none)) lNil)))
 (cSeq (cIfS (cB (cOp2 opEq (cVar 1) (cC (.int 0))))
 (cRaise "NoText")
 cNx)
 (cRet (cOp2 opSub (cC (.int 0)) (cVar 1))))))
def fSignedIn : Fn := runF 2 cSignedIn
@[simp] theorem cSlS_s {c : CE} {lo hi : S → R (Option Int)} {s : S} : cSlS c lo hi s = (cv c s).bind fun a s1 => (lo s1).bind fun l s2 => (hi s2).bind fun u s3 => opt (a.od s3.m) fun o => opt (opSlS o l u) fun rv => .ok rv s3 := Eq.trans rfl rfl
theorem cI_1 {s : S} : cPt (some (cC (.int 1))) s = .ok (some 1) s := rfl
theorem cI_0 {s : S} : cPt none s = .ok none s := rfl
theorem signedIn_ok {i : Int} (hi : i.natAbs < 10 ^ 600) : fSignedIn [.d (.str (SN i))] [] = .ok (.d (.int i)) [] := by
  have hl := len_bits hi
  apply Ok.eq
  show Ok (fSignedIn [.d (.str (SN i))] []) _
  unfold fSignedIn
  apply run_ok
  unfold cSignedIn
  have t0 : tl ("-" : Str) = [45] := by decide
  by_cases h : i < 0
  · have ht := SN_neg h
    obtain ⟨n, hn⟩ : ∃ n : Nat, -i = (n : Int) := ⟨(-i).toNat, by omega⟩
    rw [hn] at ht
    have c1 := cutS_one ht
    have c2 : cutS (SN i) (some 1) none = SN (n : Int) := ext_tl (cutS_rest ht)
    have e1 := opSlS_s (z := SN i) (lo := none) (hi := some 1) (by omega)
    have e2 := opSlS_s (z := SN i) (lo := some 1) (hi := none) (by omega)
    have em : sgn 45 = ("-" : Str) := ext_tl (by rw [t0]; rfl)
    rw [c1, em] at e1
    rw [c2] at e2
    have num := numberIn_ok (n := n) (by omega)
    have hn0 : ¬ n = 0 := by omega
    have hn0' : ¬ (n : Int) = 0 := by omega
    have ei : (0 : Int) - (n : Int) = i := by omega
    generalize SN i = w at *
    generalize SN (n : Int) = v at *
    refine w_sif (x := false) (s1 := ⟨[.d (.str w), .u], []⟩) (by
      simp [cI_1, cI_0, e1]
      exact .rfl) (fun z => nomatch z) fun _ => w_nxS ?_
    refine st (s1 := ⟨[.d (.str w), .d (.int (n : Int))], []⟩) (by
      simp [cI_1, cI_0, e2, num]
      exact .rfl) ?_
    refine w_sif (x := false) (s1 := ⟨[.d (.str w), .d (.int (n : Int))], []⟩) (by
      simp [hn0]
      exact .rfl) (fun z => nomatch z) fun _ => w_nxS ?_
    exact w_ret (x := .d (.int i)) (s1 := ⟨[.d (.str w), .d (.int (n : Int))], []⟩) (by
      have os : opSub (.d (.int 0)) (.d (.int (n : Int))) = some (.d (.int i)) := by rw [← ei]; rfl
      simp [os, -opSub_i]
      exact .rfl) (ok_0 ⟨rfl, rfl⟩)
  · obtain ⟨n, rfl⟩ : ∃ n : Nat, i = (n : Int) := ⟨i.toNat, by omega⟩
    obtain ⟨c, r, ec⟩ : ∃ c r, numL n = c :: r := List.exists_cons_of_ne_nil (numL_ne n)
    have ht : tl (SN (n : Int)) = c :: r := by rw [tl_nat, ec]
    have hc := numL_digits n c (by rw [ec]; exact List.mem_cons_self ..)
    have c1 := cutS_one ht
    have e1 := opSlS_s (z := SN (n : Int)) (lo := none) (hi := some 1) (by omega)
    rw [c1] at e1
    have ne : ¬ sgn c = ("-" : Str) := fun e => by
      have := congrArg tl e
      rw [tl_sgn, t0] at this
      cases this
      omega
    have num := numberIn_ok (n := n) (by omega)
    generalize SN (n : Int) = w at *
    refine w_sif (x := true) (s1 := ⟨[.d (.str w), .u], []⟩) (by
      simp [cI_1, cI_0, e1, ne]
      exact .rfl) (fun _ => ?_) fun z => nomatch z
    exact w_retS (x := .d (.int (n : Int))) (s1 := ⟨[.d (.str w), .u], []⟩) (by simp [num]; exact .rfl) (ok_0 ⟨rfl, rfl⟩)
/-! ### shares -/
def shT (p q : Int) : Str := if q = 1 then SN p else SN p ++ "/" ++ SN q
def cShareTxt : CS :=
 (cSeq (cAsg (tgTup 3 (tgCons (tgN 1) (tgCons (tgN 2) (tgCons (tgN 3) tgNil)))) (cMs fPartT (cVar 0) (cC (.str "/"))))
 (cSeq (cIfS (cB (cOp2 opEq (cVar 2) (cC (.str ""))))
 (cRet (cTup (cCons (cCallP fSignedIn (lCons (cVar 1) lNil)) (cCons (cC (.int 1)) cNil))))
 cNx)
 (cSeq (cSet 4 (cTup (cCons (cCallP fSignedIn (lCons (cVar 1) lNil)) (cCons (cCallP fNumberIn (lCons (cVar 3) lNil)) cNil))))
 (cSeq (cIfS (tOr' (cB (cOp2 opLt (cOp2 opIx (cVar 4) (cC (.int 1))) (cC (.int 2)))) (tNot' (cTru (cCallP fIsShare (lCons (cVar 4) lNil)))))
 (cRaise "NoText")
 cNx)
 (cRet (cVar 4))))))
def fShareTxt : Fn := runF 5 cShareTxt
theorem fPartT_s {a b : Str} (hb : b.length ≠ 0) (ha : a.length ≤ 16000000) : fPartT a (.d (.str b)) = some (.d (.tuple [.str (Txt.partition a b).1, .str (Txt.partition a b).2.1, .str (Txt.partition a b).2.2])) := by
  show (if b.length ≠ 0 ∧ a.length ≤ 16000000 then some (Rv.d (.tuple [.str (Txt.partition a b).1, .str (Txt.partition a b).2.1, .str (Txt.partition a b).2.2])) else none) = _
  rw [if_pos ⟨hb, ha⟩]
theorem asg_s3 {i j k : Nat} {x y z : D} {s : S} : asgR (tgTup 3 (tgCons (tgN i) (tgCons (tgN j) (tgCons (tgN k) tgNil)))) (.d (.tuple [x, y, z])) s = .nx ⟨((s.v.set i (.d x)).set j (.d y)).set k (.d z), s.m⟩ := rfl
theorem len_app {a b : Str} : (a ++ b).length = a.length + b.length := by
  rw [len_tl, len_tl, len_tl, tl_append, List.length_append]
theorem shareTxt_ok {p q : Int} (hp : p.natAbs < 10 ^ 500) (hq : q.natAbs < 10 ^ 500) (q1 : 1 ≤ q) (g : Int.gcd p q = 1) : fShareTxt [.d (.str (shT p q))] [] = .ok (.d (shD p q)) [] := by
  have hp6 : p.natAbs < 10 ^ 600 := Nat.lt_of_lt_of_le hp (Nat.pow_le_pow_right (by decide) (by decide))
  have hq6 : q.natAbs < 10 ^ 600 := Nat.lt_of_lt_of_le hq (Nat.pow_le_pow_right (by decide) (by decide))
  have lp := len_bits hp6
  have lq := len_bits hq6
  have sp := signedIn_ok hp6
  have ts : tl ("/" : Str) = 47 :: [] := by decide
  have ls : ("/" : Str).length = 1 := by decide
  apply Ok.eq
  show Ok (fShareTxt [.d (.str (shT p q))] []) _
  unfold fShareTxt
  apply run_ok
  unfold cShareTxt
  have fr := SN_free (i := p) (s := 47) (by decide) (by decide)
  by_cases h1 : q = 1
  · subst h1
    have e : shT p 1 = SN p := if_pos rfl
    rw [e]
    have pn := partition_none ts fr
    have fp := fPartT_s (a := SN p) (b := ("/" : Str)) (by rw [ls]; decide) (by omega)
    rw [pn] at fp
    generalize SN p = w at *
    have ms := cMs_s (f := fPartT) (co := cVar 0) (c := cC (.str "/")) (s := ⟨[.d (.str w), .u, .u, .u, .u], []⟩) (s1 := ⟨[.d (.str w), .u, .u, .u, .u], []⟩) (s2 := ⟨[.d (.str w), .u, .u, .u, .u], []⟩) (a := w) (by simp) (by simp) fp
    have ee : Str.empty = ("" : Str) := rfl
    refine st (s1 := ⟨[.d (.str w), .d (.str w), .d (.str Str.empty), .d (.str Str.empty), .u], []⟩) (by
      simp [ms, asg_s3]
      exact .rfl) ?_
    refine w_sif (x := true) (s1 := ⟨[.d (.str w), .d (.str w), .d (.str Str.empty), .d (.str Str.empty), .u], []⟩) (by
      simp [ee]
      exact .rfl) (fun _ => ?_) fun z => nomatch z
    exact w_retS (x := .d (shD p 1)) (s1 := ⟨[.d (.str w), .d (.str w), .d (.str Str.empty), .d (.str Str.empty), .u], []⟩) (by simp [sp]; exact .rfl) (ok_0 ⟨rfl, rfl⟩)
  · have e : shT p q = SN p ++ "/" ++ SN q := if_neg h1
    rw [e]
    have pn := partition_app (y := ("/" : Str)) (b := SN q) ts fr
    obtain ⟨n, rfl⟩ : ∃ n : Nat, q = (n : Int) := ⟨q.toNat, by omega⟩
    have nq := numberIn_ok (n := n) (by omega)
    have fp := fPartT_s (a := SN p ++ "/" ++ SN (n : Int)) (b := ("/" : Str)) (by rw [ls]; decide) (by rw [len_app, len_app, ls]; omega)
    rw [pn] at fp
    generalize SN p ++ "/" ++ SN (n : Int) = W at *
    generalize SN p = w at *
    generalize SN (n : Int) = v at *
    have ms := cMs_s (f := fPartT) (co := cVar 0) (c := cC (.str "/")) (s := ⟨[.d (.str W), .u, .u, .u, .u], []⟩) (s1 := ⟨[.d (.str W), .u, .u, .u, .u], []⟩) (s2 := ⟨[.d (.str W), .u, .u, .u, .u], []⟩) (a := W) (by simp) (by simp) fp
    have ne : ¬ ("/" : Str) = ("" : Str) := by decide
    have is := isShare_big (d := shD p n) fun a b e => by
      unfold shD at e
      cases e
      have : (10 : Nat) ^ 500 ≤ 2 ^ 3900 := by decide +kernel
      omega
    have sb : shareB (shD p n) = true := decide_eq_true ⟨by omega, g⟩
    rw [sb] at is
    have i1 : opIx (.d (shD p n)) (.d (.int 1)) = some (.d (.int (n : Int))) := rfl
    have lt : ¬ ((n : Int) < 2) := by omega
    have lt' : ¬ (n < 2) := by omega
    obtain ⟨Y, hY⟩ : ∃ Y, shD p n = Y := ⟨_, rfl⟩
    have hY' : PyData.tuple [.int p, .int (n : Int)] = Y := hY
    rw [hY] at is i1 ⊢
    refine st (s1 := ⟨[.d (.str W), .d (.str w), .d (.str "/"), .d (.str v), .u], []⟩) (by
      simp [ms, asg_s3]
      exact .rfl) ?_
    refine w_sif (x := false) (s1 := ⟨[.d (.str W), .d (.str w), .d (.str "/"), .d (.str v), .u], []⟩) (by
      simp [ne]
      exact .rfl) (fun z => nomatch z) fun _ => w_nxS ?_
    refine st (s1 := ⟨[.d (.str W), .d (.str w), .d (.str "/"), .d (.str v), .d Y], []⟩) (by
      simp [sp, nq, hY']
      exact .rfl) ?_
    refine w_sif (x := false) (s1 := ⟨[.d (.str W), .d (.str w), .d (.str "/"), .d (.str v), .d Y], []⟩) (by
      simp [i1, lt, lt', is]
      exact .rfl) (fun z => nomatch z) fun _ => w_nxS ?_
    exact w_ret (x := .d Y) (s1 := ⟨[.d (.str W), .d (.str w), .d (.str "/"), .d (.str v), .d Y], []⟩) (by simp; exact .rfl) (ok_0 ⟨rfl, rfl⟩)
def cShowShare : CS :=
 (cSeq (cIfS (cB (cOp2 opEq (cOp2 opIx (cVar 0) (cC (.int 1))) (cC (.int 1))))
 (cRet (cOp1 opStr (cOp2 opIx (cVar 0) (cC (.int 0)))))
 cNx)
 (cRet (cOp2 opAdd (cOp2 opAdd (cOp1 opStr (cOp2 opIx (cVar 0) (cC (.int 0)))) (cC (.str "/"))) (cOp1 opStr (cOp2 opIx (cVar 0) (cC (.int 1)))))))
def fShowShare : Fn := runF 1 cShowShare
theorem opAdd_str {a b : Str} (h : a.length + b.length ≤ 16000000) : opAdd (.d (.str a)) (.d (.str b)) = some (.d (.str (a ++ b))) := by
  show (if a.length + b.length ≤ 16000000 then some (Rv.d (.str (a ++ b))) else none) = _
  rw [if_pos h]
theorem showShare_ok {K : Nat} {p q : Int} (hp : Bs K p) (hq : Bs K q) (hK : K ≤ 1500) : fShowShare [.d (shD p q)] [] = .ok (.d (.str (shT p q))) [] := by
  have lp := len_bits (bs_ten hp (by omega))
  have lq := len_bits (bs_ten hq (by omega))
  have op := opStr_n hp (by omega)
  have oq := opStr_n hq (by omega)
  have i0 : opIx (.d (shD p q)) (.d (.int 0)) = some (.d (.int p)) := rfl
  have i1 : opIx (.d (shD p q)) (.d (.int 1)) = some (.d (.int q)) := rfl
  have ls : ("/" : Str).length = 1 := by decide
  have a1 := opAdd_str (a := SN p) (b := ("/" : Str)) (by rw [ls]; omega)
  have a2 := opAdd_str (a := SN p ++ "/") (b := SN q) (by rw [len_app, ls]; omega)
  unfold fShowShare
  rw [runF_s]
  by_cases h : q = 1
  · have e : shT p q = SN p := if_pos h
    rw [e]
    generalize shD p q = Y at *
    simp [cShowShare, i0, i1, h, op]
  · have e : shT p q = SN p ++ "/" ++ SN q := if_neg h
    rw [e]
    generalize shD p q = Y at *
    simp [cShowShare, i0, i1, h, op, oq, a1, a2]
end Vm
namespace Vm
open PySem L2 PySem.Spec PyProof.Rows TL
/-! ### texts joined and split -/
theorem fSplit_s {a b : Str} (hb : b.length ≠ 0) (ha : a.length ≤ 16000000) : fSplit a (.d (.str b)) = some (.new (.l ((Txt.split a b).map .str))) := by
  show (if b.length ≠ 0 ∧ a.length ≤ 16000000 then some (Rv.new (.l ((Txt.split a b).map .str))) else none) = _
  rw [if_pos ⟨hb, ha⟩]
theorem fJoin_s {a : Str} {ys : List Str} (h : (ys.map Str.length).sum + ys.length * a.length ≤ 16777216) : fJoin a (.d (.list (ys.map PyData.str))) = some (.d (.str (Txt.join a ys))) := by
  show (match strs? (ys.map PyData.str) with
    | some ys => if (ys.map Str.length).sum + ys.length * a.length ≤ 16777216 then some (Rv.d (.str (Txt.join a ys))) else none
    | none => none) = _
  rw [strs?_map]
  dsimp only
  rw [if_pos h]
theorem joinL_len {S : List Nat} : ∀ ps : List (List Nat), (joinL S ps).length ≤ (ps.map List.length).sum + ps.length * S.length
  | [] => by simp [joinL]
  | [p] => by
    show p.length ≤ _
    simp
  | p :: q :: r => by
    have ih := joinL_len (S := S) (q :: r)
    show (p ++ (S ++ joinL S (q :: r))).length ≤ _
    rw [List.length_append, List.length_append, List.map_cons, List.sum_cons, List.length_cons, Nat.succ_mul]
    omega
theorem join_len {a : Str} {ys : List Str} : (Txt.join a ys).length ≤ (ys.map Str.length).sum + ys.length * a.length := by
  rw [len_tl, join_eq, tl_join]
  have := joinL_len (S := tl a) (ys.map tl)
  rw [List.map_map, List.length_map, ← len_tl] at this
  have e : ys.map (List.length ∘ tl) = ys.map Str.length := List.map_congr_left fun y _ => (len_tl y).symm
  rw [e] at this
  exact this
theorem sum_len {M : Nat} : ∀ {ys : List Str}, (∀ y, y ∈ ys → y.length ≤ M) → (ys.map Str.length).sum ≤ ys.length * M
  | [], _ => by simp
  | y :: ys, h => by
    have := sum_len fun z hz => h z (List.mem_cons_of_mem _ hz)
    have := h y (List.mem_cons_self ..)
    rw [List.map_cons, List.sum_cons, List.length_cons, Nat.succ_mul]
    omega
def blank : Str := " "
theorem blank_tl : tl blank = 32 :: [] := by decide
theorem blank_len : blank.length = 1 := by decide
theorem blank_ok : blank.cps.all (· < 256) = true := by decide +kernel
/-- texts joined by a blank and split again -/
theorem joined {M : Nat} {ys : List Str} (hM : M ≤ 5000) (hl : ys.length ≤ 1000) (h : ∀ y, y ∈ ys → y.length ≤ M ∧ 32 ∉ tl y) : fJoin blank (.d (.list (ys.map PyData.str))) = some (.d (.str (Txt.join blank ys))) ∧ (ys ≠ [] → fSplit (Txt.join blank ys) (.d (.str blank)) = some (.new (.l (ys.map PyData.str)))) := by
  have s := sum_len fun y hy => (h y hy).1
  have m : ys.length * M ≤ 1000 * 5000 := Nat.mul_le_mul hl hM
  have jl := join_len (a := blank) (ys := ys)
  rw [blank_len] at jl
  refine ⟨fJoin_s (by rw [blank_len]; omega), fun ne => ?_⟩
  have f := fSplit_s (a := Txt.join blank ys) (b := blank) (by rw [blank_len]; decide) (by omega)
  rw [split_join blank_tl blank_ok ne fun p hp => (h p hp).2] at f
  exact f
/-! ### loads -/
def loadT (k : List Int) : Str := Txt.join blank (k.map SN)
theorem SN_blank {K : Nat} {k : List Int} (hK : K ≤ 1500) (hk : ∀ x, x ∈ k → Bs K x) : ∀ y, y ∈ k.map SN → y.length ≤ 601 ∧ 32 ∉ tl y := fun y hy => by
  obtain ⟨x, hx, rfl⟩ := List.mem_map.mp hy
  exact ⟨len_bits (bs_ten (hk x hx) (by omega)), SN_free (by decide) (by decide)⟩
def cShowLoad : CS :=
 (cRet (cMs fJoin (cC (.str " ")) (cLc [1] (ciSeq (cVar 0)) (tgN 1) ctYes (cOp1 opStr (cVar 1)))))
def fShowLoad : Fn := runF 2 cShowLoad
theorem showLoad_ok {K : Nat} {k : List Int} (hK : K ≤ 1500) (hk : ∀ x, x ∈ k → Bs K x) (hl : k.length ≤ 1000) : fShowLoad [.d (ldD k)] [] = .ok (.d (.str (loadT k))) [] := by
  obtain ⟨j, _⟩ := joined (M := 601) (ys := k.map SN) (by decide) (by rw [List.length_map]; exact hl) (SN_blank hK hk)
  rw [List.map_map] at j
  have lc := lc_for (own := [1]) (ci := ciSeq (cVar 0)) (tg := tgN 1) (el := cOp1 opStr (cVar 1)) (s := ⟨[.d (ldD k), .u], []⟩) (s1 := ⟨[.d (ldD k), .u], []⟩) (xs := k) (F := PyData.int) (fun x => .str (SN x)) (by simp [ldD]) (by omega) fun x hx => ⟨⟨[.d (ldD k), .d (.int x)], []⟩, rfl, [.d (ldD k), .d (.int x)], by
    have := opStr_n (hk x hx) (by omega)
    simp [this]⟩
  unfold fShowLoad
  rw [runF_s]
  have e : k.map (fun x => PyData.str (SN x)) = k.map (PyData.str ∘ SN) := rfl
  rw [e] at lc
  unfold loadT
  generalize Txt.join blank (k.map SN) = z at *
  generalize k.map (PyData.str ∘ SN) = zs at *
  generalize ldD k = Y at *
  have cm := cMs_s (f := fJoin) (co := cC (.str " ")) (c := cLc [1] (ciSeq (cVar 0)) (tgN 1) ctYes (cOp1 opStr (cVar 1))) (s := ⟨[.d Y, .u], []⟩) (s1 := ⟨[.d Y, .u], []⟩) (s2 := ⟨[.d Y, .u], []⟩) (a := blank) (y := .list zs) (by simp [blank]) (by simp [lc]) j
  simp [cShowLoad, cm]
def cLoadTxt : CS :=
 (cSeq (cSet 1 (cOp1 opTuple (cLc [2] (ciSeq (cMs fSplit (cVar 0) (cC (.str " ")))) (tgN 2) ctYes (cCallP fNumberIn (lCons (cVar 2) lNil)))))
 (cSeq (cIfS (tNot' (cTru (cCallP fIsLoad (lCons (cVar 1) lNil))))
 (cRaise "NoText")
 cNx)
 (cRet (cVar 1))))
def fLoadTxt : Fn := runF 3 cLoadTxt
theorem loadTxt_ok {K : Nat} {k : List Int} (hK : K ≤ 1500) (hk : ∀ x, x ∈ k → Bs K x) (lb : loadB (ldD k) = true) : fLoadTxt [.d (.str (loadT k))] [] = .ok (.d (ldD k)) [] := by
  obtain ⟨⟨l1, l6⟩, pos, _⟩ := loadB_iff.mp lb
  obtain ⟨_, sp⟩ := joined (M := 601) (ys := k.map SN) (by decide) (by rw [List.length_map]; omega) (SN_blank hK hk)
  have sp := sp (by
    intro z
    have := congrArg List.length z
    rw [List.length_map] at this
    have : k.length = 0 := this
    omega)
  rw [List.map_map] at sp
  have il := isload_ok (ldD k)
  rw [lb] at il
  unfold loadT
  obtain ⟨z, hz⟩ : ∃ z, Txt.join blank (k.map SN) = z := ⟨_, rfl⟩
  rw [hz] at sp ⊢
  apply Ok.eq
  show Ok (fLoadTxt [.d (.str z)] []) _
  unfold fLoadTxt
  apply run_ok
  unfold cLoadTxt
  have cm := cMs_s (f := fSplit) (co := cVar 0) (c := cC (.str " ")) (s := ⟨[.d (.str z), .u, .u], []⟩) (s1 := ⟨[.d (.str z), .u, .u], []⟩) (s2 := ⟨[.d (.str z), .u, .u], []⟩) (a := z) (y := .str blank) (by simp) (by simp [blank]) sp
  have lc := lc_for (own := [2]) (ci := ciSeq (cMs fSplit (cVar 0) (cC (.str " ")))) (tg := tgN 2) (el := cCallP fNumberIn (lCons (cVar 2) lNil)) (s := ⟨[.d (.str z), .u, .u], []⟩) (s1 := ⟨[.d (.str z), .u, .u], []⟩) (xs := k) (F := PyData.str ∘ SN) PyData.int (by simp [cm]) (by omega) fun x hx => ⟨⟨[.d (.str z), .u, .d (.str (SN x))], []⟩, rfl, [.d (.str z), .u, .d (.str (SN x))], by
    obtain ⟨n, rfl⟩ : ∃ n : Nat, x = (n : Int) := ⟨x.toNat, by have := pos x hx; omega⟩
    have := numberIn_ok (n := n) (by have := bs_ten (hk _ hx) (by omega); omega)
    generalize SN (n : Int) = w at *
    simp [this]⟩
  have e : PyData.tuple (k.map PyData.int) = ldD k := rfl
  refine st (s1 := ⟨[.d (.str z), .d (ldD k), .u], []⟩) (by
    rw [← e]
    generalize k.map PyData.int = zs at *
    simp [lc]
    exact .rfl) ?_
  generalize ldD k = Y at *
  refine w_sif (x := false) (s1 := ⟨[.d (.str z), .d Y, .u], []⟩) (by simp [il]; exact .rfl) (fun z => nomatch z) fun _ => w_nxS ?_
  exact w_ret (x := .d Y) (s1 := ⟨[.d (.str z), .d Y, .u], []⟩) (by simp; exact .rfl) (ok_0 ⟨rfl, rfl⟩)
/-! ### rules -/
abbrev prD (r : Int × Int) : D := shD r.1 r.2
abbrev prT (r : Int × Int) : Str := shT r.1 r.2
def ruleT (ps : List (Int × Int)) : Str := Txt.join blank (ps.map prT)
/-- shares in lowest terms -/
structure ShL (K : Nat) (ps : List (Int × Int)) : Prop where
  sh : ∀ r, r ∈ ps → Sh K r.1 r.2
theorem shT_len {K : Nat} {r : Int × Int} (hK : K ≤ 1500) (h : Sh K r.1 r.2) : (prT r).length ≤ 1203 ∧ 32 ∉ tl (prT r) := by
  have lp := len_bits (bs_ten h.bp (by omega))
  have lq := len_bits (bs_ten h.bq (by omega))
  have fp := SN_free (i := r.1) (s := 32) (by decide) (by decide)
  have fq := SN_free (i := r.2) (s := 32) (by decide) (by decide)
  have ls : ("/" : Str).length = 1 := by decide
  have ts : tl ("/" : Str) = [47] := by decide
  show (if r.2 = 1 then SN r.1 else SN r.1 ++ "/" ++ SN r.2).length ≤ 1203 ∧ 32 ∉ tl (if r.2 = 1 then SN r.1 else SN r.1 ++ "/" ++ SN r.2)
  split
  · exact ⟨by omega, fp⟩
  · refine ⟨by rw [len_app, len_app, ls]; omega, fun z => ?_⟩
    rw [tl_append, tl_append, ts] at z
    rcases List.mem_append.mp z with z | z
    · rcases List.mem_append.mp z with z | z
      · exact fp z
      · simp at z
    · exact fq z
theorem prT_blank {K : Nat} {ps : List (Int × Int)} (hK : K ≤ 1500) (h : ShL K ps) : ∀ y, y ∈ ps.map prT → y.length ≤ 1203 ∧ 32 ∉ tl y := fun y hy => by
  obtain ⟨r, hr, rfl⟩ := List.mem_map.mp hy
  exact shT_len hK (h.sh r hr)
def cShowRule : CS :=
 (cRet (cMs fJoin (cC (.str " ")) (cLc [1] (ciSeq (cVar 0)) (tgN 1) ctYes (cCallP fShowShare (lCons (cVar 1) lNil)))))
def fShowRule : Fn := runF 2 cShowRule
theorem showRule_ok {K : Nat} {ps : List (Int × Int)} (hK : K ≤ 1500) (h : ShL K ps) (hl : ps.length ≤ 1000) : fShowRule [.d (.tuple (ps.map prD))] [] = .ok (.d (.str (ruleT ps))) [] := by
  obtain ⟨j, _⟩ := joined (M := 1203) (ys := ps.map prT) (by decide) (by rw [List.length_map]; exact hl) (prT_blank hK h)
  rw [List.map_map] at j
  have lc := lc_for (own := [1]) (ci := ciSeq (cVar 0)) (tg := tgN 1) (el := cCallP fShowShare (lCons (cVar 1) lNil)) (s := ⟨[.d (.tuple (ps.map prD)), .u], []⟩) (s1 := ⟨[.d (.tuple (ps.map prD)), .u], []⟩) (xs := ps) (F := prD) (fun r => .str (prT r)) (by simp) (by omega) fun r hr => ⟨⟨[.d (.tuple (ps.map prD)), .d (prD r)], []⟩, rfl, [.d (.tuple (ps.map prD)), .d (prD r)], by
    have s := h.sh r hr
    have : fShowShare [.d (prD r)] [] = .ok (.d (.str (prT r))) [] := showShare_ok s.bp s.bq hK
    generalize prD r = y at *
    generalize prT r = t at *
    generalize PyData.tuple (ps.map prD) = Y at *
    simp [this]⟩
  unfold fShowRule
  rw [runF_s]
  have e : ps.map (fun r => PyData.str (prT r)) = ps.map (PyData.str ∘ prT) := rfl
  rw [e] at lc
  unfold ruleT
  generalize Txt.join blank (ps.map prT) = z at *
  generalize ps.map (PyData.str ∘ prT) = zs at *
  generalize PyData.tuple (ps.map prD) = Y at *
  have cm := cMs_s (f := fJoin) (co := cC (.str " ")) (c := cLc [1] (ciSeq (cVar 0)) (tgN 1) ctYes (cCallP fShowShare (lCons (cVar 1) lNil))) (s := ⟨[.d Y, .u], []⟩) (s1 := ⟨[.d Y, .u], []⟩) (s2 := ⟨[.d Y, .u], []⟩) (a := blank) (y := .list zs) (by simp [blank]) (by simp [lc]) j
  simp [cShowRule, cm]
def cNeedText : CS :=
 (cIfS (tNot' (cTru (cOp1 (opIsi "str") (cVar 0))))
 (cRaise "NoText")
 cNx)
def fNeedText : Fn := runF 1 cNeedText
theorem needText_ok (z : Str) : fNeedText [.d (.str z)] [] = .ok (.d .none) [] := by
  have is : opIsi "str" (.d (.str z)) = some (.d (.bool true)) := rfl
  unfold fNeedText
  rw [runF_s]
  simp [cNeedText, is]
def cReadShare : CS :=
 (cSeq (cExp (cCallP fNeedText (lCons (cVar 0) lNil)))
 (cRet (cCallP fShareTxt (lCons (cVar 0) lNil))))
def fReadShare : Fn := runF 1 cReadShare
theorem readShare_ok {K : Nat} {p q : Int} (hK : K ≤ 1500) (h : Sh K p q) : fReadShare [.d (.str (shT p q))] [] = .ok (.d (shD p q)) [] := by
  have e : (2 : Nat) ^ K ≤ 2 ^ 1500 := Nat.pow_le_pow_right (by decide) hK
  have e2 : (2 : Nat) ^ 1500 ≤ 10 ^ 500 := by decide +kernel
  have bp : p.natAbs < 2 ^ K := h.bp
  have bq : q.natAbs < 2 ^ K := h.bq
  have s := shareTxt_ok (p := p) (q := q) (by omega) (by omega) h.pos h.cop
  have n := needText_ok (shT p q)
  unfold fReadShare
  rw [runF_s]
  generalize shT p q = z at *
  generalize shD p q = y at *
  simp [cReadShare, n, s]
def cReadLoad : CS :=
 (cSeq (cExp (cCallP fNeedText (lCons (cVar 0) lNil)))
 (cRet (cCallP fLoadTxt (lCons (cVar 0) lNil))))
def fReadLoad : Fn := runF 1 cReadLoad
theorem readLoad_ok {K : Nat} {k : List Int} (hK : K ≤ 1500) (hk : ∀ x, x ∈ k → Bs K x) (lb : loadB (ldD k) = true) : fReadLoad [.d (.str (loadT k))] [] = .ok (.d (ldD k)) [] := by
  have s := loadTxt_ok hK hk lb
  have n := needText_ok (loadT k)
  unfold fReadLoad
  rw [runF_s]
  generalize loadT k = z at *
  generalize ldD k = y at *
  simp [cReadLoad, n, s]
def cReadRule : CS :=
 (cSeq (cExp (cCallP fNeedText (lCons (cVar 0) lNil)))
 (cSeq (cSet 1 (cOp1 opTuple (cLc [2] (ciSeq (cMs fSplit (cVar 0) (cC (.str " ")))) (tgN 2) ctYes (cCallP fShareTxt (lCons (cVar 2) lNil)))))
 (cSeq (cIfS (tNot' (cTru (cCallP fIsRule (lCons (cVar 1) lNil))))
 (cRaise "NoText")
 cNx)
 (cRet (cVar 1)))))
def fReadRule : Fn := runF 3 cReadRule
theorem readRule_ok {ps : List (Int × Int)} (h : ShL 200 ps) (l1 : 1 ≤ ps.length) (l2 : ps.length ≤ 12) (rb : ruleB (.tuple (ps.map prD)) = true) : fReadRule [.d (.str (ruleT ps))] [] = .ok (.d (.tuple (ps.map prD))) [] := by
  obtain ⟨_, sp⟩ := joined (M := 1203) (ys := ps.map prT) (by decide) (by rw [List.length_map]; omega) (prT_blank (by decide) h)
  have sp := sp (by
    intro z
    have := congrArg List.length z
    rw [List.length_map] at this
    have : ps.length = 0 := this
    omega)
  rw [List.map_map] at sp
  have ir := isRule_any (d := .tuple (ps.map prD)) fun ds e x hx => by
    cases e
    obtain ⟨r, hr, rfl⟩ := List.mem_map.mp hx
    intro p q e2
    unfold prD shD at e2
    cases e2
    have s := h.sh r hr
    exact ⟨s.bp, s.bq⟩
  rw [rb] at ir
  have nt := needText_ok (ruleT ps)
  unfold ruleT at nt ⊢
  obtain ⟨z, hz⟩ : ∃ z, Txt.join blank (ps.map prT) = z := ⟨_, rfl⟩
  rw [hz] at sp nt ⊢
  apply Ok.eq
  show Ok (fReadRule [.d (.str z)] []) _
  unfold fReadRule
  apply run_ok
  unfold cReadRule
  have cm := cMs_s (f := fSplit) (co := cVar 0) (c := cC (.str " ")) (s := ⟨[.d (.str z), .u, .u], []⟩) (s1 := ⟨[.d (.str z), .u, .u], []⟩) (s2 := ⟨[.d (.str z), .u, .u], []⟩) (a := z) (y := .str blank) (by simp) (by simp [blank]) sp
  have e3 : (2 : Nat) ^ 200 ≤ 10 ^ 500 := by decide +kernel
  have lc := lc_for (own := [2]) (ci := ciSeq (cMs fSplit (cVar 0) (cC (.str " ")))) (tg := tgN 2) (el := cCallP fShareTxt (lCons (cVar 2) lNil)) (s := ⟨[.d (.str z), .u, .u], []⟩) (s1 := ⟨[.d (.str z), .u, .u], []⟩) (xs := ps) (F := PyData.str ∘ prT) prD (by simp [cm]) (by omega) fun r hr => ⟨⟨[.d (.str z), .u, .d (.str (prT r))], []⟩, rfl, [.d (.str z), .u, .d (.str (prT r))], by
    have s := h.sh r hr
    have bp : r.1.natAbs < 2 ^ 200 := s.bp
    have bq : r.2.natAbs < 2 ^ 200 := s.bq
    have : fShareTxt [.d (.str (prT r))] [] = .ok (.d (prD r)) [] := shareTxt_ok (p := r.1) (q := r.2) (by omega) (by omega) s.pos s.cop
    show cv _ ⟨[.d (.str z), .u, .d (.str (prT r))], []⟩ = _
    generalize prT r = w at *
    generalize prD r = y at *
    simp [this]⟩
  refine st (s1 := ⟨[.d (.str z), .u, .u], []⟩) (by simp [nt]; exact .rfl) ?_
  refine st (s1 := ⟨[.d (.str z), .d (.tuple (ps.map prD)), .u], []⟩) (by
    generalize ps.map prD = zs at *
    simp [lc]
    exact .rfl) ?_
  generalize PyData.tuple (ps.map prD) = Y at *
  refine w_sif (x := false) (s1 := ⟨[.d (.str z), .d Y, .u], []⟩) (by simp [ir]; exact .rfl) (fun z => nomatch z) fun _ => w_nxS ?_
  exact w_ret (x := .d Y) (s1 := ⟨[.d (.str z), .d Y, .u], []⟩) (by simp; exact .rfl) (ok_0 ⟨rfl, rfl⟩)
end Vm
namespace Vm
open PySem L2
def c_show_share : CS :=
 (cSeq (cIfS (cB (cOp2 opEq (cOp2 opIx (cVar 0) (cC (.int 1))) (cC (.int 1))))
 (cRet (cOp1 opStr (cOp2 opIx (cVar 0) (cC (.int 0)))))
 cNx)
 (cRet (cOp2 opAdd (cOp2 opAdd (cOp1 opStr (cOp2 opIx (cVar 0) (cC (.int 0)))) (cC (.str "/"))) (cOp1 opStr (cOp2 opIx (cVar 0) (cC (.int 1)))))))
abbrev f_show_share : Fn := fShowShare
def c_show_load : CS :=
 (cRet (cMs fJoin (cC (.str " ")) (cLc [1] (ciSeq (cVar 0)) (tgN 1) ctYes (cOp1 opStr (cVar 1)))))
abbrev f_show_load : Fn := fShowLoad
def c_show_rule : CS :=
 (cRet (cMs fJoin (cC (.str " ")) (cLc [1] (ciSeq (cVar 0)) (tgN 1) ctYes (cCallP f_show_share (lCons (cVar 1) lNil)))))
abbrev f_show_rule : Fn := fShowRule
def c_is_whole : CS :=
 (cRet (cAnd (cOp1 (opIsi "int") (cVar 0)) (cNot (cOp1 (opIsi "bool") (cVar 0)))))
abbrev f_is_whole : Fn := fWhole
def c_measure : CS :=
 (cSeq (cWh (fun _ => 1000000) (cB (cOp2 opGt (cVar 1) (cC (.int 0))))
 (cPar 0 1 (cVar 1) (cOp2 opMod (cVar 0) (cVar 1))))
 (cRet (cVar 0)))
abbrev f_measure : Fn := fMeasure
def c_share : CS :=
 (cSeq (cIfS (cB (cOp2 opEq (cVar 1) (cC (.int 0))))
 (cRaise "NoShare")
 cNx)
 (cSeq (cSet 2 (cCallP f_measure (lCons (cOp1 opAbs (cVar 0)) (lCons (cOp1 opAbs (cVar 1)) lNil))))
 (cSeq (cIfS (cB (cOp2 opLt (cVar 1) (cC (.int 0))))
 (cSet 2 (cOp2 opSub (cC (.int 0)) (cVar 2)))
 cNx)
 (cRet (cTup (cCons (cOp2 opDiv (cVar 0) (cVar 2)) (cCons (cOp2 opDiv (cVar 1) (cVar 2)) cNil)))))))
abbrev f_share : Fn := fShare
def c_is_share : CS :=
 (cSeq (cIfS (tOr' (tNot' (cTru (cOp1 (opIsi "tuple") (cVar 0)))) (tOr' (cB (cOp2 opNe (cOp1 opLen (cVar 0)) (cC (.int 2)))) (tNot' (cTru (cOp1 opAll (cLc [1] (ciSeq (cVar 0)) (tgN 1) ctYes (cCallP f_is_whole (lCons (cVar 1) lNil))))))))
 (cRet (cC (.bool false)))
 cNx)
 (cRet (cAnd (cOp2 opGt (cOp2 opIx (cVar 0) (cC (.int 1))) (cC (.int 0))) (cOp2 opEq (cCallP f_measure (lCons (cOp1 opAbs (cOp2 opIx (cVar 0) (cC (.int 0)))) (lCons (cOp2 opIx (cVar 0) (cC (.int 1))) lNil))) (cC (.int 1))))))
abbrev f_is_share : Fn := fIsShare
def c_plus : CS :=
 (cRet (cCallP f_share (lCons (cOp2 opAdd (cOp2 opMulV (cOp2 opIx (cVar 0) (cC (.int 0))) (cOp2 opIx (cVar 1) (cC (.int 1)))) (cOp2 opMulV (cOp2 opIx (cVar 1) (cC (.int 0))) (cOp2 opIx (cVar 0) (cC (.int 1))))) (lCons (cOp2 opMulV (cOp2 opIx (cVar 0) (cC (.int 1))) (cOp2 opIx (cVar 1) (cC (.int 1)))) lNil))))
abbrev f_plus : Fn := fPlus
def c_times : CS :=
 (cRet (cCallP f_share (lCons (cOp2 opMulV (cOp2 opIx (cVar 0) (cC (.int 0))) (cOp2 opIx (cVar 1) (cC (.int 0)))) (lCons (cOp2 opMulV (cOp2 opIx (cVar 0) (cC (.int 1))) (cOp2 opIx (cVar 1) (cC (.int 1)))) lNil))))
abbrev f_times : Fn := fTimes
def c_total : CS :=
 (cSeq (cSet 1 (cTup (cCons (cC (.int 0)) (cCons (cC (.int 1)) cNil))))
 (cSeq (cFor (ciSeq (cVar 0)) (tgN 2)
 (cSet 1 (cCallP f_plus (lCons (cVar 1) (lCons (cVar 2) lNil)))))
 (cRet (cVar 1))))
abbrev f_total : Fn := fTotal
def c_is_load : CS :=
 (cSeq (cIfS (tOr' (tNot' (cTru (cOp1 (opIsi "tuple") (cVar 0)))) (tNot' (cB (cChain opLe opLe (cC (.int 1)) (cOp1 opLen (cVar 0)) (cC (.int 6))))))
 (cRet (cC (.bool false)))
 cNx)
 (cSeq (cIfS (tNot' (cTru (cOp1 opAll (cLc [1] (ciSeq (cVar 0)) (tgN 1) ctYes (cAnd (cCallP f_is_whole (lCons (cVar 1) lNil)) (cOp2 opGe (cVar 1) (cC (.int 0))))))))
 (cRet (cC (.bool false)))
 cNx)
 (cRet (cOp1 opAll (cLc [2] (ciR1 (cOp2 opSub (cOp1 opLen (cVar 0)) (cC (.int 1)))) (tgN 2) ctYes (cOp2 opGe (cOp2 opIx (cVar 0) (cVar 2)) (cOp2 opIx (cVar 0) (cOp2 opAdd (cVar 2) (cC (.int 1))))))))))
abbrev f_is_load : Fn := fIsLoad
def c_is_rule : CS :=
 (cSeq (cIfS (tOr' (tNot' (cTru (cOp1 (opIsi "tuple") (cVar 0)))) (tNot' (cB (cChain opLe opLe (cC (.int 1)) (cOp1 opLen (cVar 0)) (cC (.int 12))))))
 (cRet (cC (.bool false)))
 cNx)
 (cSeq (cIfS (tNot' (cTru (cOp1 opAll (cLc [1] (ciSeq (cVar 0)) (tgN 1) ctYes (cAnd (cCallP f_is_share (lCons (cVar 1) lNil)) (cOp2 opGe (cOp2 opIx (cVar 1) (cC (.int 0))) (cC (.int 0))))))))
 (cRet (cC (.bool false)))
 cNx)
 (cRet (cOp2 opEq (cCallP f_total (lCons (cOp1 opList (cVar 0)) lNil)) (cTup (cCons (cC (.int 1)) (cCons (cC (.int 1)) cNil)))))))
abbrev f_is_rule : Fn := fIsRule
def c_number_in : CS :=
 (cSeq (cIfS (tOr' (cB (cOp2 opEq (cVar 0) (cC (.str "")))) (tOr' (tNot' (cTru (cOp1 opAll (cLc [1] (ciStr (cVar 0)) (tgN 1) ctYes (cOp2 opInSg (cVar 1) (cC (.str "0123456789"))))))) (tAnd' (cB (cOp2 opEq (cOp2 opIx (cVar 0) (cC (.int 0))) (cC (.str "0")))) (cB (cOp2 opNe (cVar 0) (cC (.str "0")))))))
 (cRaise "NoText")
 cNx)
 (cRet (cOp1 opIntT (cVar 0))))
abbrev f_number_in : Fn := fNumberIn
def c_signed_in : CS :=
 (cSeq (cIfS (cB (cOp2 opNe (cSlS (cVar 0) (cPt none) (cPt (some (cC (.int 1))))) (cC (.str "-"))))
 (cRet (cCallP f_number_in (lCons (cVar 0) lNil)))
 cNx)
 (cSeq (cSet 1 (cCallP f_number_in (lCons (cSlS (cVar 0) (cPt (some (cC (.int 1)))) (cPt none)) lNil)))
 (cSeq (cIfS (cB (cOp2 opEq (cVar 1) (cC (.int 0))))
 (cRaise "NoText")
 cNx)
 (cRet (cOp2 opSub (cC (.int 0)) (cVar 1))))))
abbrev f_signed_in : Fn := fSignedIn
def c_share_in : CS :=
 (cSeq (cAsg (tgTup 3 (tgCons (tgN 1) (tgCons (tgN 2) (tgCons (tgN 3) tgNil)))) (cMs fPartT (cVar 0) (cC (.str "/"))))
 (cSeq (cIfS (cB (cOp2 opEq (cVar 2) (cC (.str ""))))
 (cRet (cTup (cCons (cCallP f_signed_in (lCons (cVar 1) lNil)) (cCons (cC (.int 1)) cNil))))
 cNx)
 (cSeq (cSet 4 (cTup (cCons (cCallP f_signed_in (lCons (cVar 1) lNil)) (cCons (cCallP f_number_in (lCons (cVar 3) lNil)) cNil))))
 (cSeq (cIfS (tOr' (cB (cOp2 opLt (cOp2 opIx (cVar 4) (cC (.int 1))) (cC (.int 2)))) (tNot' (cTru (cCallP f_is_share (lCons (cVar 4) lNil)))))
 (cRaise "NoText")
 cNx)
 (cRet (cVar 4))))))
abbrev f_share_in : Fn := fShareTxt
def c_load_in : CS :=
 (cSeq (cSet 1 (cOp1 opTuple (cLc [2] (ciSeq (cMs fSplit (cVar 0) (cC (.str " ")))) (tgN 2) ctYes (cCallP f_number_in (lCons (cVar 2) lNil)))))
 (cSeq (cIfS (tNot' (cTru (cCallP f_is_load (lCons (cVar 1) lNil))))
 (cRaise "NoText")
 cNx)
 (cRet (cVar 1))))
abbrev f_load_in : Fn := fLoadTxt
def c_need_text : CS :=
 (cIfS (tNot' (cTru (cOp1 (opIsi "str") (cVar 0))))
 (cRaise "NoText")
 cNx)
abbrev f_need_text : Fn := fNeedText
def c_read_share : CS :=
 (cSeq (cExp (cCallP f_need_text (lCons (cVar 0) lNil)))
 (cRet (cCallP f_share_in (lCons (cVar 0) lNil))))
abbrev f_read_share : Fn := fReadShare
def c_read_load : CS :=
 (cSeq (cExp (cCallP f_need_text (lCons (cVar 0) lNil)))
 (cRet (cCallP f_load_in (lCons (cVar 0) lNil))))
abbrev f_read_load : Fn := fReadLoad
def c_read_rule : CS :=
 (cSeq (cExp (cCallP f_need_text (lCons (cVar 0) lNil)))
 (cSeq (cSet 1 (cOp1 opTuple (cLc [2] (ciSeq (cMs fSplit (cVar 0) (cC (.str " ")))) (tgN 2) ctYes (cCallP f_share_in (lCons (cVar 2) lNil)))))
 (cSeq (cIfS (tNot' (cTru (cCallP f_is_rule (lCons (cVar 1) lNil))))
 (cRaise "NoText")
 cNx)
 (cRet (cVar 1)))))
abbrev f_read_rule : Fn := fReadRule
def c__law_pen : CS :=
 (cRet (cLst (cCons (cOp1 opList (cSl (cVar 0) (cPt none) (cPt (some (cC (.int 63)))))) (cCons (cC (.int 0)) (cCons (cC (.int 0)) cNil)))))
abbrev f__law_pen : Fn := fPenL
def c__law_draw : CS :=
 (cSeq (cIfS (cB (cOp2 opGt (cOp2 opIx (cVar 0) (cC (.int 2))) (cC (.int 0))))
 (cSeq (cSet 2 (cOp2 opMod (cOp2 opIx (cVar 0) (cC (.int 2))) (cVar 1)))
 (cSeq (cPutL (cVar 0) (cC (.int 2)) (cOp2 opDiv (cOp2 opIx (cVar 0) (cC (.int 2))) (cVar 1)))
 (cRet (cVar 2))))
 cNx)
 (cSeq (cSet 3 (cOp2 opIx (cVar 0) (cC (.int 1))))
 (cSeq (cPutL (cVar 0) (cC (.int 1)) (cOp2 opAdd (cVar 3) (cC (.int 1))))
 (cSeq (cSet 4 (cOp2 opAdd (cOp2 opMulV (cC (.int 30011)) (cVar 3)) (cC (.int 13))))
 (cSeq (cIfS (cB (cOp2 opGt (cOp1 opLen (cOp2 opIx (cVar 0) (cC (.int 0)))) (cC (.int 0))))
 (cSet 4 (cOp2 opIx (cOp2 opIx (cVar 0) (cC (.int 0))) (cOp2 opMod (cVar 3) (cOp1 opLen (cOp2 opIx (cVar 0) (cC (.int 0)))))))
 cNx)
 (cSeq (cIfS (tAnd' (cB (cOp2 opLt (cVar 3) (cOp1 opLen (cOp2 opIx (cVar 0) (cC (.int 0)))))) (cB (cOp2 opGe (cOp1 opAbs (cVar 4)) (cOp2 opPow (cC (.int 10)) (cC (.int 18))))))
 (cSeq (cPutL (cVar 0) (cC (.int 2)) (cOp2 opDiv (cOp1 opAbs (cVar 4)) (cVar 1)))
 (cRet (cOp2 opMod (cOp1 opAbs (cVar 4)) (cVar 1))))
 cNx)
 (cSeq (cSet 5 (cOp2 opMod (cOp2 opMulV (cOp2 opAdd (cOp2 opAdd (cOp2 opMod (cVar 4) (cC (.int 2147483587))) (cOp2 opMulV (cC (.int 50021)) (cVar 3))) (cC (.int 23))) (cC (.int 48271))) (cC (.int 2147483629))))
 (cSeq (cSet 5 (cOp2 opMod (cOp2 opAdd (cOp2 opAdd (cOp2 opMulV (cOp2 opMulV (cVar 5) (cVar 5)) (cVar 5)) (cOp2 opMulV (cC (.int 69621)) (cVar 5))) (cVar 3)) (cC (.int 2147483563))))
 (cRet (cOp2 opMod (cOp2 opDiv (cOp2 opMod (cOp2 opMulV (cVar 5) (cOp2 opAdd (cOp2 opMod (cVar 5) (cC (.int 40009))) (cC (.int 7)))) (cC (.int 2147483549))) (cC (.int 64))) (cVar 1)))))))))))
abbrev f__law_draw : Fn := fDrawC
def c__law_measure : CS :=
 (cSeq (cWh (fun _ => 1000000) (cB (cOp2 opNe (cVar 1) (cC (.int 0))))
 (cPar 0 1 (cVar 1) (cOp2 opMod (cVar 0) (cVar 1))))
 (cRet (cOp1 opAbs (cVar 0))))
abbrev f__law_measure : Fn := fMeasureC
def c__law_lowest : CS :=
 (cSeq (cSet 2 (cCallP f__law_measure (lCons (cVar 0) (lCons (cVar 1) lNil))))
 (cRet (cTup (cCons (cOp2 opDiv (cVar 0) (cVar 2)) (cCons (cOp2 opDiv (cVar 1) (cVar 2)) cNil)))))
abbrev f__law_lowest : Fn := fLowestC
def c__law_power : CS :=
 (cSeq (cSet 2 (cC (.int 1)))
 (cSeq (cFor (ciR1 (cVar 1)) (tgN 3)
 (cSet 2 (cOp2 opMulV (cVar 2) (cVar 0))))
 (cRet (cVar 2))))
abbrev f__law_power : Fn := fPower
def c__law_rule : CS :=
 (cSeq (cSet 2 (cCall f__law_draw (lCons (cVar 0) (lCons (cC (.int 6)) lNil))))
 (cSeq (cIfS (cB (cOp2 opEq (cVar 2) (cC (.int 0))))
 (cSeq (cSet 3 (cCall f__law_draw (lCons (cVar 0) (lCons (cVar 1) lNil))))
 (cRet (cOp1 opTuple (cLc [9] (ciR1 (cVar 1)) (tgN 9) ctYes (cTup (cCons (cOp1 opInt (cOp2 opEq (cVar 9) (cVar 3))) (cCons (cC (.int 1)) cNil)))))))
 cNx)
 (cSeq (cIfS (cB (cOp2 opEq (cVar 2) (cC (.int 1))))
 (cSeq (cSet 4 (cOp2 opAdd (cC (.int 1)) (cCall f__law_draw (lCons (cVar 0) (lCons (cOp2 opSub (cC (.int 3)) (cOp1 opInt (cOp2 opGt (cVar 1) (cC (.int 10))))) lNil)))))
 (cSeq (cSet 5 (cOp2 opAdd (cLst (cCons (cC (.int 0)) cNil)) (cLc [9] (ciR1 (cVar 1)) (tgN 9) ctYes (cCallP f__law_power (lCons (cOp2 opAdd (cVar 9) (cC (.int 1))) (lCons (cVar 4) lNil))))))
 (cRet (cOp1 opTuple (cLc [9] (ciR1 (cVar 1)) (tgN 9) ctYes (cCallP f__law_lowest (lCons (cOp2 opSub (cOp2 opIx (cVar 5) (cOp2 opAdd (cVar 9) (cC (.int 1)))) (cOp2 opIx (cVar 5) (cVar 9))) (lCons (cCallP f__law_power (lCons (cVar 1) (lCons (cVar 4) lNil))) lNil))))))))
 cNx)
 (cSeq (cIfS (cB (cOp2 opEq (cVar 2) (cC (.int 2))))
 (cSeq (cSet 6 (cOp2 opAdd (cC (.int 1)) (cCall f__law_draw (lCons (cVar 0) (lCons (cC (.int 1000)) lNil)))))
 (cSeq (cSet 7 (cOp1 opSorted (cOp2 opAdd (cLst (cCons (cC (.int 0)) (cCons (cVar 6) cNil))) (cLc [9] (ciR1 (cOp2 opSub (cVar 1) (cC (.int 1)))) (tgN 9) ctYes (cCall f__law_draw (lCons (cVar 0) (lCons (cOp2 opAdd (cVar 6) (cC (.int 1))) lNil)))))))
 (cRet (cOp1 opTuple (cLc [9] (ciR1 (cVar 1)) (tgN 9) ctYes (cCallP f__law_lowest (lCons (cOp2 opSub (cOp2 opIx (cVar 7) (cOp2 opAdd (cVar 9) (cC (.int 1)))) (cOp2 opIx (cVar 7) (cVar 9))) (lCons (cVar 6) lNil))))))))
 cNx)
 (cSeq (cSetM 8 (cLc [9] (ciR1 (cVar 1)) (tgN 9) ctYes (cCall f__law_draw (lCons (cVar 0) (lCons (cOp2 opIx (cLst (cCons (cC (.int 10)) (cCons (cC (.int 2)) (cCons (cC (.int 4)) cNil)))) (cOp2 opSub (cVar 2) (cC (.int 3)))) lNil)))))
 (cSeq (cAugL (cVar 8) (cCall f__law_draw (lCons (cVar 0) (lCons (cVar 1) lNil))) (cC (.int 1)))
 (cRet (cOp1 opTuple (cLc [10] (ciSeq (cFz 8)) (tgN 10) ctYes (cCallP f__law_lowest (lCons (cVar 10) (lCons (cOp1 opSum (cVar 8)) lNil))))))))))))
abbrev f__law_rule : Fn := fRuleC
def c__law_load : CS :=
 (cSeq (cSet 3 (cCall f__law_draw (lCons (cVar 0) (lCons (cC (.int 5)) lNil))))
 (cSeq (cIfS (cB (cOp2 opEq (cVar 3) (cC (.int 0))))
 (cRet (cOp1 opTuple (cLc [6] (ciR1 (cVar 1)) (tgN 6) ctYes (cOp2 opAdd (cOp2 opDiv (cVar 2) (cVar 1)) (cOp1 opInt (cOp2 opLt (cVar 6) (cOp2 opMod (cVar 2) (cVar 1))))))))
 cNx)
 (cSeq (cSet 4 (cOp1 opSorted (cOp2 opAdd (cLst (cCons (cC (.int 0)) (cCons (cVar 2) cNil))) (cLc [6] (ciR1 (cOp2 opSub (cVar 1) (cC (.int 1)))) (tgN 6) ctYes (cCall f__law_draw (lCons (cVar 0) (lCons (cOp2 opAdd (cVar 2) (cC (.int 1))) lNil)))))))
 (cSeq (cIfS (cB (cOp2 opEq (cVar 3) (cC (.int 1))))
 (cSeq (cSet 5 (cOp2 opMin2 (cVar 2) (cC (.int 2))))
 (cSet 4 (cOp1 opSorted (cOp2 opAdd (cLst (cCons (cC (.int 0)) (cCons (cVar 2) cNil))) (cLc [6] (ciR1 (cOp2 opSub (cVar 1) (cC (.int 1)))) (tgN 6) ctYes (cOp2 opSub (cVar 2) (cCall f__law_draw (lCons (cVar 0) (lCons (cOp2 opAdd (cVar 5) (cC (.int 1))) lNil)))))))))
 cNx)
 (cRet (cOp1 opTuple (cOp1 opRevA (cOp1 opSorted (cLc [6] (ciR1 (cVar 1)) (tgN 6) ctYes (cOp2 opSub (cOp2 opIx (cVar 4) (cOp2 opAdd (cVar 6) (cC (.int 1)))) (cOp2 opIx (cVar 4) (cVar 6))))))))))))
abbrev f__law_load : Fn := fLoadC
def c__law_figures : CS :=
 (cSeq (cSet 1 (cOp1 opAbs (cVar 0)))
 (cSeq (cSet 2 (cOp2 opIx (cC (.str "0123456789")) (cOp2 opMod (cVar 1) (cC (.int 10)))))
 (cSeq (cWh (fun _ => 1000000) (cB (cOp2 opGt (cVar 1) (cC (.int 9))))
 (cSeq (cSet 1 (cOp2 opDiv (cVar 1) (cC (.int 10))))
 (cSet 2 (cOp2 opAdd (cOp2 opIx (cC (.str "0123456789")) (cOp2 opMod (cVar 1) (cC (.int 10)))) (cVar 2)))))
 (cRet (cOp2 opAdd (cOp2 opMulT (cC (.str "-")) (cOp1 opInt (cOp2 opLt (cVar 0) (cC (.int 0))))) (cVar 2))))))
def f__law_figures : Fn := runF 3 c__law_figures
def c__law_share_text : CS :=
 (cSeq (cIfS (cB (cOp2 opEq (cOp2 opIx (cVar 0) (cC (.int 1))) (cC (.int 1))))
 (cRet (cCallP f__law_figures (lCons (cOp2 opIx (cVar 0) (cC (.int 0))) lNil)))
 cNx)
 (cRet (cOp2 opAdd (cOp2 opAdd (cCallP f__law_figures (lCons (cOp2 opIx (cVar 0) (cC (.int 0))) lNil)) (cC (.str "/"))) (cCallP f__law_figures (lCons (cOp2 opIx (cVar 0) (cC (.int 1))) lNil)))))
def f__law_share_text : Fn := runF 1 c__law_share_text
def c__law_load_text : CS :=
 (cRet (cMs fJoin (cC (.str " ")) (cLc [1] (ciSeq (cVar 0)) (tgN 1) ctYes (cCallP f__law_figures (lCons (cVar 1) lNil)))))
def f__law_load_text : Fn := runF 2 c__law_load_text
def c__law_rule_text : CS :=
 (cRet (cMs fJoin (cC (.str " ")) (cLc [1] (ciSeq (cVar 0)) (tgN 1) ctYes (cCallP f__law_share_text (lCons (cVar 1) lNil)))))
def f__law_rule_text : Fn := runF 2 c__law_rule_text
def c__law_part : CS :=
 (cSeq (cSet 1 (cCall f__law_draw (lCons (cVar 0) (lCons (cC (.int 5)) lNil))))
 (cSeq (cSet 2 (cOp2 opIx (cLst (cCons (cC (.int 10)) (cCons (cC (.int 1000)) (cCons (cOp2 opPow (cC (.int 10)) (cC (.int 6))) (cCons (cOp2 opPow (cC (.int 10)) (cC (.int 12))) (cCons (cOp2 opPow (cC (.int 10)) (cC (.int 12))) cNil)))))) (cVar 1)))
 (cSeq (cSet 3 (cOp2 opMod (cOp2 opAdd (cOp2 opMulV (cCall f__law_draw (lCons (cVar 0) (lCons (cOp2 opPow (cC (.int 10)) (cC (.int 6))) lNil))) (cOp2 opPow (cC (.int 10)) (cC (.int 6)))) (cCall f__law_draw (lCons (cVar 0) (lCons (cOp2 opPow (cC (.int 10)) (cC (.int 6))) lNil)))) (cVar 2)))
 (cSeq (cSet 4 (cOp2 opMod (cOp2 opAdd (cOp2 opMulV (cCall f__law_draw (lCons (cVar 0) (lCons (cOp2 opPow (cC (.int 10)) (cC (.int 6))) lNil))) (cOp2 opPow (cC (.int 10)) (cC (.int 6)))) (cCall f__law_draw (lCons (cVar 0) (lCons (cOp2 opPow (cC (.int 10)) (cC (.int 6))) lNil)))) (cOp2 opSub (cVar 2) (cC (.int 1)))))
 (cSeq (cSet 5 (cOp2 opAdd (cC (.int 1)) (cOp2 opMulV (cVar 4) (cOp1 opInt (cOp2 opGt (cCall f__law_draw (lCons (cVar 0) (lCons (cC (.int 4)) lNil))) (cC (.int 0)))))))
 (cRet (cCallP f__law_lowest (lCons (cOp2 opMulV (cVar 3) (cOp2 opSub (cC (.int 1)) (cOp2 opMulV (cC (.int 2)) (cCall f__law_draw (lCons (cVar 0) (lCons (cC (.int 2)) lNil)))))) (lCons (cVar 5) lNil)))))))))
def f__law_part : Fn := runF 6 c__law_part
def c2__law_right (ask1 ask2 : Fn) : CS :=
 (cSeq (cSet 4 (cAskF 0 ask1 (lCons (cVar 2) lNil)))
 (cSeq (cIfS (tOr' (tNot' (cTru (cOp1 (opIsi "str") (cVar 4)))) (cB (cOp2 opNe (cVar 4) (cVar 3))))
 (cRet (cC (.bool false)))
 cNx)
 (cRet (cOr (cIsNf 1) (cOp2 opEq (cOp1 opRepr (cAskF2 1 ask2 (lCons (cVar 3) lNil))) (cOp1 opRepr (cVar 2)))))))
def f2__law_right (ask1 ask2 : Fn) : Fn := runF 5 (c2__law_right ask1 ask2)
def c1__law_right (ask : Fn) : CS :=
 (cSeq (cSet 4 (cAskF 0 ask (lCons (cVar 2) lNil)))
 (cSeq (cIfS (tOr' (tNot' (cTru (cOp1 (opIsi "str") (cVar 4)))) (cB (cOp2 opNe (cVar 4) (cVar 3))))
 (cRet (cC (.bool false)))
 cNx)
 (cRet (cOr (cIsNf 1) (cOp2 opEq (cOp1 opRepr cNo) (cOp1 opRepr (cVar 2)))))))
def f1__law_right (ask : Fn) : Fn := runF 5 (c1__law_right ask)
def c_law : CS :=
 (cSeq (cSetM 1 (cCallP f__law_pen (lCons (cVar 0) lNil)))
 (cSeq (cFor (ciR1 (cC (.int 5))) (tgN 2)
 (cSeq (cSet 3 (cOp2 opAdd (cC (.int 1)) (cCall f__law_draw (lCons (cVar 1) (lCons (cC (.int 6)) lNil)))))
 (cSeq (cSet 4 (cCall f__law_part (lCons (cVar 1) lNil)))
 (cSeq (cSet 5 (cCallP f_times (lCons (cCallP f_times (lCons (cVar 4) (lCons (cCall f__law_part (lCons (cVar 1) lNil)) lNil))) (lCons (cCall f__law_part (lCons (cVar 1) lNil)) lNil))))
 (cSeq (cSet 6 (cCall f__law_load (lCons (cVar 1) (lCons (cVar 3) (lCons (cCall f__law_draw (lCons (cVar 1) (lCons (cC (.int 41)) lNil))) lNil)))))
 (cSeq (cSet 7 (cOp1 opTuple (cLc [12] (ciR1 (cVar 3)) (tgN 12) ctYes (cCall f__law_draw (lCons (cVar 1) (lCons (cC (.int 7)) lNil))))))
 (cSeq (cSet 8 (cCall f__law_rule (lCons (cVar 1) (lCons (cOp2 opAdd (cC (.int 1)) (cCall f__law_draw (lCons (cVar 1) (lCons (cC (.int 12)) lNil)))) lNil))))
 (cSeq (cSet 9 (cOp1 opRepr (cLst (cCons (cVar 4) (cCons (cVar 5) (cCons (cVar 6) (cCons (cVar 7) (cCons (cVar 8) cNil))))))))
 (cSeq (cFor (ciR1 (cC (.int 2))) (tgN 10)
 (cSeq (cFor (ciSeq (cTup (cCons (cVar 4) (cCons (cVar 5) cNil)))) (tgN 11)
 (cIfS (tNot' (cTru (cCallFn2 (f2__law_right f_show_share f_read_share) (lCons (cVar 11) (lCons (cCallP f__law_share_text (lCons (cVar 11) lNil)) lNil)))))
 (cRet (cC (.bool false)))
 cNx))
 (cSeq (cIfS (tNot' (cTru (cCallFn2 (f2__law_right f_show_load f_read_load) (lCons (cVar 6) (lCons (cCallP f__law_load_text (lCons (cVar 6) lNil)) lNil)))))
 (cRet (cC (.bool false)))
 cNx)
 (cSeq (cIfS (tNot' (cTru (cCallFn (f1__law_right f_show_load) (lCons (cC .none) (lCons (cVar 7) (lCons (cCallP f__law_load_text (lCons (cVar 7) lNil)) lNil))))))
 (cRet (cC (.bool false)))
 cNx)
 (cIfS (tNot' (cTru (cCallFn2 (f2__law_right f_show_rule f_read_rule) (lCons (cVar 8) (lCons (cCallP f__law_rule_text (lCons (cVar 8) lNil)) lNil)))))
 (cRet (cC (.bool false)))
 cNx)))))
 (cIfS (cB (cOp2 opNe (cOp1 opRepr (cLst (cCons (cVar 4) (cCons (cVar 5) (cCons (cVar 6) (cCons (cVar 7) (cCons (cVar 8) cNil))))))) (cVar 9)))
 (cRet (cC (.bool false)))
 cNx))))))))))
 (cRet (cAnd (cOp2 opEq (cCallP f_show_share (lCons (cTup (cCons (cOp1 opNeg (cC (.int 3))) (cCons (cC (.int 4)) cNil))) lNil)) (cC (.str "-3/4"))) (cAnd (cOp2 opEq (cCallP f_show_share (lCons (cTup (cCons (cC (.int 0)) (cCons (cC (.int 1)) cNil))) lNil)) (cC (.str "0"))) (cOp2 opEq (cCallP f_show_rule (lCons (cTup (cCons (cTup (cCons (cC (.int 1)) (cCons (cC (.int 2)) cNil))) (cCons (cTup (cCons (cC (.int 1)) (cCons (cC (.int 2)) cNil))) cNil))) lNil)) (cC (.str "1/2 1/2"))))))))
def f_law : Fn := runF 13 c_law
end Vm
namespace Vm
open PySem L2 PySem.Spec PyProof.Rows TL
/-! ### the law's own figures -/
theorem fig_ix {d : Nat} (h : d < 10) : opIx (.d (.str FIG)) (.d (.int (d : Nat))) = some (.d (.str (sgn (48 + d)))) := by
  refine opIx_str (by decide +kernel) ?_
  rw [fig_tl]
  have : d = 0 ∨ d = 1 ∨ d = 2 ∨ d = 3 ∨ d = 4 ∨ d = 5 ∨ d = 6 ∨ d = 7 ∨ d = 8 ∨ d = 9 := by omega
  rcases this with rfl | rfl | rfl | rfl | rfl | rfl | rfl | rfl | rfl | rfl <;> rfl
theorem figures_ok {i : Int} (hi : i.natAbs < 10 ^ 600) : f__law_figures [.d (.int i)] [] = .ok (.d (.str (SN i))) [] := by
  obtain ⟨a, ha⟩ : ∃ a : Nat, i.natAbs = a := ⟨_, rfl⟩
  have oa : opAbs (.d (.int i)) = some (.d (.int (a : Nat))) := by
    have e : (if i < 0 then -i else i) = (a : Int) := by split <;> omega
    rw [← e]
    rfl
  have la := numL_len (n := a) (k := 600) (by decide) (by omega)
  apply Ok.eq
  show Ok (f__law_figures [.d (.int i)] []) _
  unfold f__law_figures
  apply run_ok
  unfold c__law_figures
  let x0 : Sl := .d (.int i)
  have fx : ∀ n : Nat, opIx (.d (.str FIG)) (.d (.int ((n : Int) % 10))) = some (.d (.str (sgn (48 + n % 10)))) := fun n => by
    have e : (n : Int) % 10 = ((n % 10 : Nat) : Int) := by omega
    rw [e]
    exact fig_ix (by omega)
  refine st (s1 := ⟨[x0, .d (.int (a : Nat)), .u], []⟩) (by simp [x0, -opAbs_i, oa]; exact .rfl) ?_
  have f0 := fx a
  have FG : ("0123456789" : Str) = FIG := rfl
  refine st (s1 := ⟨[x0, .d (.int (a : Nat)), .d (.str (sgn (48 + a % 10)))], []⟩) (by simp [x0, FG, opMod_i, f0]; exact .rfl) ?_
  refine w_cut (fun s => ∃ (x : Sl) (z : Str), s = ⟨[x0, x, .d (.str z)], []⟩ ∧ tl z = numL a) ?_ fun s hs => ?_
  · refine w_while (fun k s => ∃ (r : Nat) (z : Str), s = ⟨[x0, .d (.int (r : Nat)), .d (.str z)], []⟩ ∧ (r < 10 → tl z = numL a) ∧ (10 ≤ r → numL (r / 10) ++ tl z = numL a) ∧ r < 10 ^ (k + 1) ∧ k ≤ 600) 600 (by decide) ⟨a, _, rfl, fun h => by rw [tl_sgn, numL_lt h, Nat.mod_eq_of_lt h], fun h => by rw [tl_sgn, ← numL_step h], Nat.lt_of_lt_of_le (by omega) (Nat.pow_le_pow_right (by decide) (Nat.le_succ 600)), Nat.le_refl _⟩ fun k s hi => ?_
    obtain ⟨r, z, rfl, h1, h2, hr, hk⟩ := hi
    by_cases h : r < 10
    · refine ⟨false, ⟨[x0, .d (.int (r : Nat)), .d (.str z)], []⟩, ?_, (fun _ => ⟨_, z, rfl, h1 h⟩), (fun z => nomatch z)⟩
      have c' : ¬ 9 < r := by omega
      simp
      omega
    · have c : (9 : Int) < (r : Int) := by omega
      have c' : 9 < r := by omega
      refine ⟨true, ⟨[x0, .d (.int (r : Nat)), .d (.str z)], []⟩, by simp [c, c'], (fun z => nomatch z), fun _ => ?_⟩
      have dv : opDiv (.d (.int (r : Nat))) (.d (.int 10)) = some (.d (.int ((r / 10 : Nat) : Int))) := by
        have := opDiv_s (i := (r : Int)) (j := 10) (by decide) (by decide)
        rw [show (r : Int) / 10 = ((r / 10 : Nat) : Int) by omega] at this
        exact this
      have zl : z.length ≤ 601 := by
        have := h2 (by omega)
        have := congrArg List.length this
        rw [List.length_append, ← len_tl] at this
        omega
      have f1 := fx (r / 10)
      have ad := opAdd_str (a := sgn (48 + r / 10 % 10)) (b := z) (by have : (sgn (48 + r / 10 % 10)).length = 1 := rfl; omega)
      generalize hy : sgn (48 + r / 10 % 10) = y at *
      have ty : tl y = [48 + r / 10 % 10] := by rw [← hy]; rfl
      have k1 : 1 ≤ k := by
        rcases Nat.eq_zero_or_pos k with h0 | h0
        · subst h0
          have : (10 : Nat) ^ (0 + 1) = 10 := rfl
          omega
        · exact h0
      have hr2 : r / 10 < 10 ^ k := by
        rw [Nat.pow_succ] at hr
        omega
      have kk : k - 1 + 1 = k := by omega
      have h2 := h2 (by omega)
      generalize hq : r / 10 = q at *
      refine st (s1 := ⟨[x0, .d (.int (q : Nat)), .d (.str z)], []⟩) (by simp [x0, dv]; exact .rfl) ?_
      refine st_last (s1 := ⟨[x0, .d (.int (q : Nat)), .d (.str (y ++ z))], []⟩) (by simp [x0, FG, opMod_i, f1, ad]; exact .rfl) ⟨k - 1, by omega, q, y ++ z, rfl, fun h => ?_, fun h => ?_, by rw [kk]; exact hr2, by omega⟩
      · rw [tl_append, ty, ← h2, numL_lt h, Nat.mod_eq_of_lt h]
      · rw [tl_append, ty, ← h2, numL_step h, List.append_assoc]
  · obtain ⟨x, z, rfl, hz⟩ := hs
    have zl : z.length ≤ 601 := by rw [len_tl, hz]; omega
    have t0 : tl ("-" : Str) = [45] := by decide
    have l0 : ("-" : Str).length = 1 := by decide
    by_cases h : i < 0
    · have e : ("-" : Str) ++ z = SN i := ext_tl (by
        rw [tl_append, t0, hz, tl_SN]
        unfold sgL
        rw [if_pos h, ha]
        rfl)
      have ad := opAdd_str (a := ("-" : Str)) (b := z) (by omega)
      rw [e] at ad
      have mu : opMulT (.d (.str "-")) (.d (.int 1)) = some (.d (.str "-")) := rfl
      refine w_ret (x := .d (.str (SN i))) (s1 := ⟨[x0, x, .d (.str z)], []⟩) (by simp [x0, h, mu, ad]; exact .rfl) (ok_0 ⟨rfl, rfl⟩)
    · have e : Str.empty ++ z = SN i := ext_tl (by
        rw [tl_append, hz, tl_SN]
        unfold sgL
        rw [if_neg h, ha]
        rfl)
      have ad := opAdd_str (a := Str.empty) (b := z) (by have : Str.empty.length = 0 := rfl; omega)
      rw [e] at ad
      have mu : opMulT (.d (.str "-")) (.d (.int 0)) = some (.d (.str Str.empty)) := rfl
      refine w_ret (x := .d (.str (SN i))) (s1 := ⟨[x0, x, .d (.str z)], []⟩) (by simp [x0, h, mu, ad]; exact .rfl) (ok_0 ⟨rfl, rfl⟩)
theorem share_text {K : Nat} {p q : Int} (hK : K ≤ 1500) (h : Sh K p q) : f__law_share_text [.d (shD p q)] [] = .ok (.d (.str (shT p q))) [] := by
  have lp := len_bits (bs_ten h.bp (by omega))
  have lq := len_bits (bs_ten h.bq (by omega))
  have op := figures_ok (bs_ten h.bp (by omega))
  have oq := figures_ok (bs_ten h.bq (by omega))
  have i0 : opIx (.d (shD p q)) (.d (.int 0)) = some (.d (.int p)) := rfl
  have i1 : opIx (.d (shD p q)) (.d (.int 1)) = some (.d (.int q)) := rfl
  have ls : ("/" : Str).length = 1 := by decide
  have a1 := opAdd_str (a := SN p) (b := ("/" : Str)) (by rw [ls]; omega)
  have a2 := opAdd_str (a := SN p ++ "/") (b := SN q) (by rw [len_app, ls]; omega)
  unfold f__law_share_text
  rw [runF_s]
  by_cases h : q = 1
  · subst h
    have e : shT p 1 = SN p := if_pos rfl
    rw [e]
    generalize shD p 1 = y at *
    generalize SN p = w at *
    simp [c__law_share_text, i0, i1, op]
  · have e : shT p q = SN p ++ "/" ++ SN q := if_neg h
    rw [e]
    generalize shD p q = y at *
    generalize SN p ++ "/" ++ SN q = v at *
    generalize SN p ++ "/" = u at *
    generalize SN p = w at *
    generalize SN q = w2 at *
    simp [c__law_share_text, i0, i1, op, oq, h, a1, a2]
theorem load_text {K : Nat} {k : List Int} (hK : K ≤ 1500) (hk : ∀ x, x ∈ k → Bs K x) (hl : k.length ≤ 1000) : f__law_load_text [.d (ldD k)] [] = .ok (.d (.str (loadT k))) [] := by
  obtain ⟨j, _⟩ := joined (M := 601) (ys := k.map SN) (by decide) (by rw [List.length_map]; exact hl) (SN_blank hK hk)
  rw [List.map_map] at j
  have lc := lc_for (own := [1]) (ci := ciSeq (cVar 0)) (tg := tgN 1) (el := cCallP f__law_figures (lCons (cVar 1) lNil)) (s := ⟨[.d (ldD k), .u], []⟩) (s1 := ⟨[.d (ldD k), .u], []⟩) (xs := k) (F := PyData.int) (fun x => .str (SN x)) (by simp [ldD]) (by omega) fun x hx => ⟨⟨[.d (ldD k), .d (.int x)], []⟩, rfl, [.d (ldD k), .d (.int x)], by
    have := figures_ok (bs_ten (hk x hx) (by omega))
    simp [this]⟩
  unfold f__law_load_text
  rw [runF_s]
  have e : k.map (fun x => PyData.str (SN x)) = k.map (PyData.str ∘ SN) := rfl
  rw [e] at lc
  unfold loadT
  generalize Txt.join blank (k.map SN) = z at *
  generalize k.map (PyData.str ∘ SN) = zs at *
  generalize ldD k = Y at *
  have cm := cMs_s (f := fJoin) (co := cC (.str " ")) (c := cLc [1] (ciSeq (cVar 0)) (tgN 1) ctYes (cCallP f__law_figures (lCons (cVar 1) lNil))) (s := ⟨[.d Y, .u], []⟩) (s1 := ⟨[.d Y, .u], []⟩) (s2 := ⟨[.d Y, .u], []⟩) (a := blank) (y := .list zs) (by simp [blank]) (by simp [lc]) j
  simp [c__law_load_text, cm]
theorem rule_text {K : Nat} {ps : List (Int × Int)} (hK : K ≤ 1500) (h : ShL K ps) (hl : ps.length ≤ 1000) : f__law_rule_text [.d (.tuple (ps.map prD))] [] = .ok (.d (.str (ruleT ps))) [] := by
  obtain ⟨j, _⟩ := joined (M := 1203) (ys := ps.map prT) (by decide) (by rw [List.length_map]; exact hl) (prT_blank hK h)
  rw [List.map_map] at j
  have lc := lc_for (own := [1]) (ci := ciSeq (cVar 0)) (tg := tgN 1) (el := cCallP f__law_share_text (lCons (cVar 1) lNil)) (s := ⟨[.d (.tuple (ps.map prD)), .u], []⟩) (s1 := ⟨[.d (.tuple (ps.map prD)), .u], []⟩) (xs := ps) (F := prD) (fun r => .str (prT r)) (by simp) (by omega) fun r hr => ⟨⟨[.d (.tuple (ps.map prD)), .d (prD r)], []⟩, rfl, [.d (.tuple (ps.map prD)), .d (prD r)], by
    have s := h.sh r hr
    have : f__law_share_text [.d (prD r)] [] = .ok (.d (.str (prT r))) [] := share_text hK s
    generalize prD r = y at *
    generalize prT r = t at *
    generalize PyData.tuple (ps.map prD) = Y at *
    simp [this]⟩
  unfold f__law_rule_text
  rw [runF_s]
  have e : ps.map (fun r => PyData.str (prT r)) = ps.map (PyData.str ∘ prT) := rfl
  rw [e] at lc
  unfold ruleT
  generalize Txt.join blank (ps.map prT) = z at *
  generalize ps.map (PyData.str ∘ prT) = zs at *
  generalize PyData.tuple (ps.map prD) = Y at *
  have cm := cMs_s (f := fJoin) (co := cC (.str " ")) (c := cLc [1] (ciSeq (cVar 0)) (tgN 1) ctYes (cCallP f__law_share_text (lCons (cVar 1) lNil))) (s := ⟨[.d Y, .u], []⟩) (s1 := ⟨[.d Y, .u], []⟩) (s2 := ⟨[.d Y, .u], []⟩) (a := blank) (y := .list zs) (by simp [blank]) (by simp [lc]) j
  simp [c__law_rule_text, cm]
end Vm
namespace Vm
open PySem L2 PySem.Spec PyProof.Rows TL
/-! ### lowest terms of either sign -/
theorem gcd_mod (a b : Int) : Int.gcd b (a % b) = Int.gcd a b := by
  have h := Int.gcd_add_mul_right_left b (a % b) (a / b)
  have e : a % b + a / b * b = a := by
    have := Int.emod_add_mul_ediv a b
    rw [Int.mul_comm] at this
    exact this
  rw [e] at h
  rw [Int.gcd_comm]
  exact h.symm
theorem measureZ_ok {a b : Int} {k : Nat} (hb : 1 ≤ b) (hk : b.natAbs < 2 ^ k) (hk2 : k < 400000) : fMeasureC [.d (.int a), .d (.int b)] [] = .ok (.d (.int (Int.gcd a b : Nat))) [] := by
  obtain ⟨B, rfl⟩ : ∃ B : Nat, b = (B : Int) := ⟨b.toNat, by omega⟩
  have hk : B < 2 ^ k := by simpa using hk
  obtain ⟨s', e, q⟩ := whL_inv (t := cB (cOp2 opNe (cVar 1) (cC (.int 0)))) (b := cPar 0 1 (cVar 1) (cOp2 opMod (cVar 0) (cVar 1)))
    (fun k' s => (k' = 2 * k + 1 ∧ s = ⟨[.d (.int a), .d (.int (B : Nat))], []⟩) ∨ ∃ x y j : Nat, s = ⟨[.d (.int x), .d (.int y)], []⟩ ∧ Nat.gcd x y = Int.gcd a B ∧ ((k' = 2 * j ∧ y < 2 ^ j) ∨ (k' + 1 = 2 * j ∧ y < x ∧ x < 2 ^ j)))
    (fun s => s = ⟨[.d (.int (Int.gcd a B : Nat)), .d (.int 0)], []⟩) (fun k' s hi => by
      rcases hi with ⟨rfl, rfl⟩ | hi
      · have om : opMod (.d (.int a)) (.d (.int (B : Nat))) = some (.d (.int (a % (B : Int)))) := opMod_i (by omega)
        have h0 : 0 ≤ a % (B : Int) := Int.emod_nonneg _ (by omega)
        have h1 : a % (B : Int) < (B : Int) := Int.emod_lt_of_pos _ (by omega)
        obtain ⟨y, hy⟩ : ∃ y : Nat, a % (B : Int) = (y : Int) := ⟨(a % (B : Int)).toNat, by omega⟩
        have hg := gcd_mod a B
        rw [hy] at om hg h1
        have hB : B ≠ 0 := by omega
        exact .inr ⟨⟨[.d (.int a), .d (.int (B : Nat))], []⟩, ⟨[.d (.int (B : Nat)), .d (.int (y : Nat))], []⟩, 2 * k, by simp [hB], .inl (by simp [om]), by omega, .inr ⟨B, y, k, rfl, hg, .inl ⟨rfl, by omega⟩⟩⟩
      obtain ⟨x, y, j, rfl, hg, hc⟩ := hi
      by_cases hy : y = 0
      · subst hy
        refine .inl ⟨⟨[.d (.int x), .d (.int 0)], []⟩, by simp, ?_⟩
        rw [Nat.gcd_zero_right] at hg
        rw [hg]
      · have hy0 : 0 < y := Nat.pos_of_ne_zero hy
        have hyI : (0 : Int) < (y : Int) := by omega
        have hm := Nat.mod_lt x hy0
        have om : opMod (.d (.int x)) (.d (.int y)) = some (.d (.int ((x % y : Nat) : Int))) := opMod_i hyI
        have hgcd : Nat.gcd y (x % y) = Int.gcd a B := by
          rw [← hg, Nat.gcd_comm x y, Nat.gcd_rec y x, Nat.gcd_comm]
        suffices hh : ∃ k'', k'' < k' ∧ ∃ j : Nat, ((k'' = 2 * j ∧ x % y < 2 ^ j) ∨ (k'' + 1 = 2 * j ∧ x % y < y ∧ y < 2 ^ j)) by
          obtain ⟨k'', hk', j', hj⟩ := hh
          exact .inr ⟨⟨[.d (.int x), .d (.int y)], []⟩, ⟨[.d (.int y), .d (.int ((x % y : Nat) : Int))], []⟩, k'', by simp [hy], .inl (by simp [om]), hk', .inr ⟨y, x % y, j', rfl, hgcd, hj⟩⟩
        rcases hc with ⟨hk, hlt⟩ | ⟨hk, hlt, hx⟩
        · have hj : j ≠ 0 := fun z => by
            rw [z] at hlt
            have : (2 : Nat) ^ 0 = 1 := rfl
            omega
          exact ⟨2 * j - 1, by omega, j, .inr ⟨by omega, hm, hlt⟩⟩
        · have h2 := two_mod hy0 (Nat.le_of_lt hlt)
          have hj : j = j - 1 + 1 := by omega
          rw [hj, Nat.pow_succ] at hx
          exact ⟨2 * (j - 1), by omega, j - 1, .inl ⟨rfl, by omega⟩⟩) 1000000 (2 * k + 1) ⟨[.d (.int a), .d (.int (B : Nat))], []⟩ (by omega) (.inl ⟨rfl, rfl⟩)
  unfold fMeasureC
  rw [runF_s]
  show fin [] (cSeq _ _ _) = _
  rw [cSeq_s]
  show fin [] ((whL _ _ 1000000 ⟨[.d (.int a), .d (.int (B : Nat))], []⟩).then _) = _
  rw [e, q]
  have g0 : ¬ (((Int.gcd a B : Nat) : Int) < 0) := by omega
  simp [g0]
theorem lowestZ_ok {t b : Int} {K : Nat} (hb : 1 ≤ b) (ht : Bs K t) (hk : Bs K b) (hK : K ≤ 8900) : ∃ p q, fLowestC [.d (.int t), .d (.int b)] [] = .ok (.d (shD p q)) [] ∧ Sh K p q := by
  have e := measureZ_ok (a := t) (k := K) hb hk (by omega)
  have gp : 0 < Int.gcd t b := Int.gcd_pos_of_ne_zero_right _ (by omega)
  obtain ⟨g, hg⟩ : ∃ g, Int.gcd t b = g := ⟨_, rfl⟩
  have d1 : (g : Int) ∣ t := by rw [← hg]; exact Int.gcd_dvd_left ..
  have d2 : (g : Int) ∣ b := by rw [← hg]; exact Int.gcd_dvd_right ..
  have gb : g ≤ b.natAbs := by
    have := Int.le_of_dvd (by omega) d2
    omega
  have hk' : b.natAbs < 2 ^ K := hk
  have ht' : t.natAbs < 2 ^ K := ht
  have l2 : ((g : Nat) : Int).natAbs.log2 < 9000 := by
    rw [Int.natAbs_natCast]
    have : g.log2 < K + 1 := log2_lt (by omega)
    omega
  have v1 : opDiv (.d (.int t)) (.d (.int (g : Nat))) = some (.d (.int (t / (g : Int)))) := opDiv_i (by omega) l2
  have v2 : opDiv (.d (.int b)) (.d (.int (g : Nat))) = some (.d (.int (b / (g : Int)))) := opDiv_i (by omega) l2
  have cop : Int.gcd (t / (g : Int)) (b / (g : Int)) = 1 := by
    rw [← hg]
    exact Int.gcd_ediv_gcd_ediv_gcd (by omega)
  rw [hg] at e
  refine ⟨t / (g : Int), b / (g : Int), ?_, ?_⟩
  · unfold fLowestC
    rw [runF_s]
    simp [cLowestC, e, v1, v2, shD]
  · have p1 : 1 ≤ b / (g : Int) := by
      obtain ⟨c, rfl⟩ := d2
      rw [Int.mul_ediv_cancel_left _ (by omega)]
      rcases Int.lt_or_le 0 c with h | h
      · exact h
      · have := Int.mul_nonpos_of_nonneg_of_nonpos (a := (g : Int)) (b := c) (by omega) h
        omega
    refine ⟨p1, cop, ?_, ?_⟩
    · show (t / (g : Int)).natAbs < 2 ^ K
      obtain ⟨c, rfl⟩ := d1
      rw [Int.mul_ediv_cancel_left _ (by omega)]
      rw [Int.natAbs_mul, Int.natAbs_natCast] at ht'
      have := Nat.le_mul_of_pos_left c.natAbs (n := g) (by omega)
      omega
    · show (b / (g : Int)).natAbs < 2 ^ K
      obtain ⟨c, rfl⟩ := d2
      rw [Int.mul_ediv_cancel_left _ (by omega)]
      rw [Int.natAbs_mul, Int.natAbs_natCast] at hk'
      have := Nat.le_mul_of_pos_left c.natAbs (n := g) (by omega)
      omega
theorem part_ok {B : Nat} {p : Cell} (r : List Cell) (hp : IsPenL B p) (hB : B < 900000) : ∃ a b p', f__law_part [.c 0] (p :: r) = .ok (.d (shD a b)) (p' :: r) ∧ Sh 45 a b ∧ IsPenL (B + 7) p' := by
  suffices h : Ok (f__law_part [.c 0] (p :: r)) fun x m => ∃ a b p', x = .d (shD a b) ∧ m = p' :: r ∧ Sh 45 a b ∧ IsPenL (B + 7) p' by
    obtain ⟨_, _, e, a, b, p', rfl, rfl, h⟩ := h
    exact ⟨a, b, p', e, h⟩
  unfold f__law_part
  refine run_ok ?_
  unfold c__law_part
  obtain ⟨w, p1, e1, w0, w5, hp1⟩ := dC r 5 hp
  let ST := fun (x1 x2 x3 x4 x5 : Sl) (m : List Cell) => (⟨[.c 0, x1, x2, x3, x4, x5], m⟩ : S)
  refine st (s1 := ST (.d (.int w)) .u .u .u .u (p1 :: r)) (by simp [ST, e1]; exact .rfl) ?_
  obtain ⟨F, hF, F1, F2⟩ : ∃ F : Int, opIx (.d (.list [.int 10, .int 1000, .int 1000000, .int 1000000000000, .int 1000000000000])) (.d (.int w)) = some (.d (.int F)) ∧ 2 ≤ F ∧ F ≤ 1000000000000 := by
    have : w = 0 ∨ w = 1 ∨ w = 2 ∨ w = 3 ∨ w = 4 := by omega
    rcases this with rfl | rfl | rfl | rfl | rfl
    · exact ⟨10, rfl, by decide, by decide⟩
    · exact ⟨1000, rfl, by decide, by decide⟩
    · exact ⟨1000000, rfl, by decide, by decide⟩
    · exact ⟨1000000000000, rfl, by decide, by decide⟩
    · exact ⟨1000000000000, rfl, by decide, by decide⟩
  have w6 : opPow (.d (.int 10)) (.d (.int 6)) = some (.d (.int 1000000)) := rfl
  have w12 : opPow (.d (.int 10)) (.d (.int 12)) = some (.d (.int 1000000000000)) := rfl
  let dw : Sl := .d (.int w)
  let dF : Sl := .d (.int F)
  refine st (s1 := ST dw dF .u .u .u (p1 :: r)) (by simp [ST, w6, w12, hF]; exact .rfl) ?_
  obtain ⟨a, p2, e2, a0, a1, hp2⟩ := dC r 1000000 hp1
  obtain ⟨b, p3, e3, b0, b1, hp3⟩ := dC r 1000000 hp2
  have m1 : opMulV (.d (.int a)) (.d (.int 1000000)) = some (.d (.int (a * 1000000))) := opMul_b (by omega) (by omega) (by omega) (by omega)
  obtain ⟨T, hT⟩ : ∃ T, (a * 1000000 + b) % F = T := ⟨_, rfl⟩
  have T0 : 0 ≤ T := by rw [← hT]; exact Int.emod_nonneg _ (by omega)
  have T1 : T < F := by rw [← hT]; exact Int.emod_lt_of_pos _ (by omega)
  have om : opMod (.d (.int (a * 1000000 + b))) (.d (.int F)) = some (.d (.int T)) := by rw [← hT]; exact opMod_i (by omega)
  let dT : Sl := .d (.int T)
  refine st (s1 := ST dw dF dT .u .u (p3 :: r)) (by simp [ST, dF, w6, e2, e3, m1, om]; exact .rfl) ?_
  obtain ⟨c, p4, e4, c0, c1, hp4⟩ := dC r 1000000 hp3
  obtain ⟨d, p5, e5, d0, d1, hp5⟩ := dC r 1000000 hp4
  have m2 : opMulV (.d (.int c)) (.d (.int 1000000)) = some (.d (.int (c * 1000000))) := opMul_b (by omega) (by omega) (by omega) (by omega)
  obtain ⟨U, hU⟩ : ∃ U, (c * 1000000 + d) % (F - 1) = U := ⟨_, rfl⟩
  have U0 : 0 ≤ U := by rw [← hU]; exact Int.emod_nonneg _ (by omega)
  have U1 : U < F - 1 := by rw [← hU]; exact Int.emod_lt_of_pos _ (by omega)
  have om2 : opMod (.d (.int (c * 1000000 + d))) (.d (.int (F - 1))) = some (.d (.int U)) := by rw [← hU]; exact opMod_i (by omega)
  let dU : Sl := .d (.int U)
  refine st (s1 := ST dw dF dT dU .u (p5 :: r)) (by simp [ST, dF, w6, e4, e5, m2, om2]; exact .rfl) ?_
  obtain ⟨g, p6, e6, g0, g1, hp6⟩ := dC r 4 hp5
  obtain ⟨V, hV, V1, V2⟩ : ∃ V : Int, opMulV (.d (.int U)) (.d (.int (if 0 < g then 1 else 0))) = some (.d (.int (V - 1))) ∧ 1 ≤ V ∧ V ≤ 1000000000000 := by
    refine ⟨1 + U * (if 0 < g then 1 else 0), ?_, ?_, ?_⟩
    · rw [show (1 + U * (if 0 < g then 1 else 0)) - 1 = U * (if 0 < g then 1 else 0) by omega]
      exact opMul_b (by omega) (by omega) (by split <;> omega) (by split <;> omega)
    · split <;> omega
    · split <;> omega
  have V3 : 1 + (V - 1) = V := by omega
  let dV : Sl := .d (.int V)
  refine st (s1 := ST dw dF dT dU dV (p6 :: r)) (by
    by_cases h : 0 < g
    · rw [if_pos h] at hV
      simp [ST, dU, e6, h, hV, V3]
      exact .rfl
    · rw [if_neg h] at hV
      simp [ST, dU, e6, h, hV, V3]
      exact .rfl) ?_
  obtain ⟨h, p7, e7, h0, h1, hp7⟩ := dC r 2 hp6
  have m3 : opMulV (.d (.int 2)) (.d (.int h)) = some (.d (.int (2 * h))) := opMul_b (by omega) (by omega) (by omega) (by omega)
  have m4 : opMulV (.d (.int T)) (.d (.int (1 - 2 * h))) = some (.d (.int (T * (1 - 2 * h)))) := opMul_b (by omega) (by omega) (by omega) (by omega)
  obtain ⟨Z, hZ, Z1, Z2⟩ : ∃ Z, T * (1 - 2 * h) = Z ∧ - 1000000000000 ≤ Z ∧ Z ≤ 1000000000000 := by
    have : h = 0 ∨ h = 1 := by omega
    rcases this with rfl | rfl
    · exact ⟨_, rfl, by omega, by omega⟩
    · exact ⟨_, rfl, by omega, by omega⟩
  rw [hZ] at m4
  obtain ⟨P, Q, el, sh⟩ := lowestZ_ok (t := Z) (b := V) (K := 45) V1 (show Z.natAbs < 2 ^ 45 by omega) (show V.natAbs < 2 ^ 45 by omega) (by decide)
  exact w_ret (x := .d (shD P Q)) (s1 := ST dw dF dT dU dV (p7 :: r)) (by simp [ST, dT, dV, e7, m3, m4, el]; exact .rfl) (ok_p ⟨P, Q, p7, rfl, rfl, sh, hp7.mono (by omega)⟩)
/-! ### shown and read -/
theorem ask_1 {f : Fn} {cl : CL} {i : Nat} {s : S} (h : s.v[i]? = some .f) : cAskF i f cl s = cCallP f cl s := by
  unfold cAskF
  rw [h]
theorem ask_2 {f : Fn} {cl : CL} {i : Nat} {s : S} (h : s.v[i]? = some .f2) : cAskF2 i f cl s = cCallP f cl s := by
  unfold cAskF2
  rw [h]
theorem right2 {f g : Fn} {x : D} {t z : Str} (h1 : f [.d x] [] = .ok (.d (.str t)) []) (h2 : g [.d (.str t)] [] = .ok (.d x) []) (hr : opRepr (.d x) = some (.d (.str z))) : f2__law_right f g [.f, .f2, .d x, .d (.str t)] [] = .ok (.d (.bool true)) [] := by
  have is : opIsi "str" (.d (.str t)) = some (.d (.bool true)) := rfl
  have a1 : ∀ x4 m, cAskF 0 f (lCons (cVar 2) lNil) ⟨[.f, .f2, .d x, .d (.str t), x4], m⟩ = cCallP f (lCons (cVar 2) lNil) ⟨[.f, .f2, .d x, .d (.str t), x4], m⟩ := fun _ _ => ask_1 rfl
  have a2 : ∀ x4 m, cAskF2 1 g (lCons (cVar 3) lNil) ⟨[.f, .f2, .d x, .d (.str t), x4], m⟩ = cCallP g (lCons (cVar 3) lNil) ⟨[.f, .f2, .d x, .d (.str t), x4], m⟩ := fun _ _ => ask_2 rfl
  have n1 : ∀ x4 m, cIsNf 1 ⟨[.f, .f2, .d x, .d (.str t), x4], m⟩ = .ok (.d (.bool false)) ⟨[.f, .f2, .d x, .d (.str t), x4], m⟩ := fun _ _ => rfl
  unfold f2__law_right
  rw [runF_s]
  simp [c2__law_right, a1, a2, n1, h1, h2, hr, is]
theorem right1 {f : Fn} {x : D} {t : Str} (h1 : f [.d x] [] = .ok (.d (.str t)) []) : f1__law_right f [.f, .d .none, .d x, .d (.str t)] [] = .ok (.d (.bool true)) [] := by
  have is : opIsi "str" (.d (.str t)) = some (.d (.bool true)) := rfl
  have a1 : ∀ x4 m, cAskF 0 f (lCons (cVar 2) lNil) ⟨[.f, .d .none, .d x, .d (.str t), x4], m⟩ = cCallP f (lCons (cVar 2) lNil) ⟨[.f, .d .none, .d x, .d (.str t), x4], m⟩ := fun _ _ => ask_1 rfl
  have n1 : ∀ x4 m, cIsNf 1 ⟨[.f, .d .none, .d x, .d (.str t), x4], m⟩ = .ok (.d (.bool true)) ⟨[.f, .d .none, .d x, .d (.str t), x4], m⟩ := fun _ _ => rfl
  unfold f1__law_right
  rw [runF_s]
  simp [c1__law_right, a1, n1, h1, is]
end Vm
namespace Vm
open PySem L2 PySem.Spec PyProof.Rows TL
def decS : D → Int × Int
  | .tuple [.int p, .int q] => (p, q)
  | _ => (0, 1)
theorem sum_div {W : Int} : ∀ ws : List Int, (ws.map fun w : Int => (w : Rat) / (W : Rat)).sum = ((ws.sum : Int) : Rat) / (W : Rat)
  | [] => by simp [Rat.div_def]
  | w :: ws => by
    rw [List.map_cons, List.sum_cons, List.sum_cons, sum_div ws, Rat.intCast_add, Rat.div_def, Rat.div_def, Rat.div_def, Rat.add_mul]
theorem ru_rule {n : Nat} {ds : List D} (h : RuW n ds) (n1 : 1 ≤ n) (n12 : n ≤ 12) : ∃ ps : List (Int × Int), ds = ps.map prD ∧ ps.length = n ∧ ShL 45 ps ∧ ruleB (.tuple ds) = true := by
  obtain ⟨ws, hl, R, _⟩ := h.ex
  have dl : ds.length = n := by rw [R.len, hl]
  have ge : ∀ j, (hj : j < ds.length) → ∃ p q, ds[j] = shD p q ∧ Sh 45 p q ∧ p * ws.sum = ws.getD j 0 * q := fun j hj => by
    obtain ⟨p, q, e, sh, z⟩ := R.at' j (by rw [← R.len]; exact hj)
    rw [List.getElem?_eq_getElem hj] at e
    exact ⟨p, q, Option.some.inj e, sh, z⟩
  have mem : ∀ d, d ∈ ds → ∃ p q, d = shD p q ∧ Sh 45 p q ∧ 0 ≤ p := fun d hd => by
    obtain ⟨j, hj, rfl⟩ := List.getElem_of_mem hd
    obtain ⟨p, q, e, sh, z⟩ := ge j hj
    refine ⟨p, q, e, sh, ?_⟩
    have hw : 0 ≤ ws.getD j 0 := by
      rw [getD_get (show j < ws.length by rw [← R.len]; exact hj)]
      exact R.pos _ (List.getElem_mem _)
    have h1 := sh.pos
    have h2 := R.s1
    rcases Int.lt_or_le p 0 with h | h
    · have := Int.mul_neg_of_neg_of_pos h (show 0 < ws.sum by omega)
      have := Int.mul_nonneg hw (show 0 ≤ q by omega)
      omega
    · exact h
  refine ⟨ds.map decS, ?_, by rw [List.length_map, dl], ⟨fun r hr => ?_⟩, ?_⟩
  · rw [List.map_map]
    refine (List.map_id ds).symm.trans (List.map_congr_left fun d hd => ?_)
    obtain ⟨p, q, rfl, _⟩ := mem d hd
    rfl
  · obtain ⟨d, hd, rfl⟩ := List.mem_map.mp hr
    obtain ⟨p, q, rfl, sh, _⟩ := mem d hd
    exact sh
  · have h1 : ds.all posB = true := List.all_eq_true.mpr fun d hd => by
      obtain ⟨p, q, rfl, sh, p0⟩ := mem d hd
      show (decide (0 < q ∧ Int.gcd p q = 1) && decide (0 ≤ p)) = true
      have := sh.pos
      rw [decide_eq_true ⟨by omega, sh.cop⟩, decide_eq_true p0]
      rfl
    have h2 : ds.map ratD = ws.map fun w : Int => (w : Rat) / (ws.sum : Rat) := by
      apply List.ext_getElem
      · rw [List.length_map, List.length_map, R.len]
      · intro j h1 h2
        rw [List.getElem_map, List.getElem_map]
        rw [List.length_map] at h1 h2
        obtain ⟨p, q, e, sh, z⟩ := ge j h1
        rw [e]
        rw [getD_get h2] at z
        have hq := rat_ne sh.pos
        have hW := rat_ne R.s1
        have z' : (p : Rat) * (ws.sum : Rat) = (ws[j] : Rat) * (q : Rat) := by
          rw [← Rat.intCast_mul, ← Rat.intCast_mul, z]
        show (p : Rat) / (q : Rat) = _
        generalize (p : Rat) = p at *
        generalize (q : Rat) = q at *
        generalize ((ws.sum : Int) : Rat) = W at *
        generalize (ws[j] : Rat) = w at *
        grind
    have h3 : (ds.map ratD).sum = 1 := by
      rw [h2, sum_div]
      have hW := rat_ne R.s1
      generalize ((ws.sum : Int) : Rat) = W at *
      grind
    show (decide (1 ≤ ds.length ∧ ds.length ≤ 12) && (ds.all posB && decide ((ds.map ratD).sum = 1))) = true
    rw [decide_eq_true (by omega : 1 ≤ ds.length ∧ ds.length ≤ 12), h1, h3, decide_eq_true rfl]
    rfl
theorem kd_sh {K : Nat} {p q : Int} (h : Sh K p q) (hK : K ≤ 1500) : Kd true (2 * (K + 4) + 2) 1 (shD p q) := Kd.ints (b := true) (k := K) (ns := [p, q]) (by omega) fun i hi => by
  rcases List.mem_cons.mp hi with rfl | hi
  · exact h.bp
  · rw [List.mem_singleton.mp hi]
    exact h.bq
theorem kd_ld {K : Nat} {k : List Int} (h : ∀ x, x ∈ k → Bs K x) (hK : K ≤ 1500) : Kd true (k.length * (K + 4) + 2) 1 (ldD k) := Kd.ints (b := true) (by omega) h
theorem kd_ps {K : Nat} {ps : List (Int × Int)} (h : ShL K ps) (hK : K ≤ 1500) : Kd true (ps.length * (2 * (K + 4) + 2 + 2) + 2) 2 (.tuple (ps.map prD)) := by
  have := Kd.tuple (b := true) (n := 2 * (K + 4) + 2) (m := 1) (ds := ps.map prD) fun d hd => by
    obtain ⟨r, hr, rfl⟩ := List.mem_map.mp hd
    exact kd_sh (h.sh r hr) hK
  rw [List.length_map] at this
  exact this
theorem callFn2_s {f : Fn} {cl : CL} {s s1 : S} {a b x : D} (h : cl s = .ok [.d a, .d b] s1) (e : f [.f, .f2, .d a, .d b] [] = .ok (.d x) []) : cCallFn2 f cl s = .ok (.d x) s1 := by
  unfold cCallFn2
  rw [h]
  show (if [Sl.d a, .d b].all Sl.isD = true then (f [.f, .f2, .d a, .d b] []).pure s1 else .bad) = _
  rw [if_pos (by rfl), e]
  rfl
theorem callFn3_s {f : Fn} {cl : CL} {s s1 : S} {a b c x : D} (h : cl s = .ok [.d a, .d b, .d c] s1) (e : f [.f, .d a, .d b, .d c] [] = .ok (.d x) []) : cCallFn f cl s = .ok (.d x) s1 := by
  unfold cCallFn
  rw [h]
  show (if [Sl.d a, .d b, .d c].all Sl.isD = true then (f [.f, .d a, .d b, .d c] []).pure s1 else .bad) = _
  rw [if_pos (by rfl), e]
  rfl
end Vm
namespace Vm
open PySem L2 PySem.Spec PyProof.Rows TL
theorem last_59 (s : S) : (cAnd (cOp2 opEq (cCallP f_show_share (lCons (cTup (cCons (cOp1 opNeg (cC (.int 3))) (cCons (cC (.int 4)) cNil))) lNil)) (cC (.str "-3/4"))) (cAnd (cOp2 opEq (cCallP f_show_share (lCons (cTup (cCons (cC (.int 0)) (cCons (cC (.int 1)) cNil))) lNil)) (cC (.str "0"))) (cOp2 opEq (cCallP f_show_rule (lCons (cTup (cCons (cTup (cCons (cC (.int 1)) (cCons (cC (.int 2)) cNil))) (cCons (cTup (cCons (cC (.int 1)) (cCons (cC (.int 2)) cNil))) cNil))) lNil)) (cC (.str "1/2 1/2"))))) s = .ok (.d (.bool true)) s := by
  have h1 : fShowShare [.d (.tuple [.int (-3), .int 4])] [] = .ok (.d (.str (shT (-3) 4))) [] := showShare_ok (K := 10) (p := -3) (q := 4) (show (-3 : Int).natAbs < 2 ^ 10 by decide) (show (4 : Int).natAbs < 2 ^ 10 by decide) (by decide)
  have h2 : fShowShare [.d (.tuple [.int 0, .int 1])] [] = .ok (.d (.str (shT 0 1))) [] := showShare_ok (K := 10) (p := 0) (q := 1) (show (0 : Int).natAbs < 2 ^ 10 by decide) (show (1 : Int).natAbs < 2 ^ 10 by decide) (by decide)
  have h3 : fShowRule [.d (.tuple [.tuple [.int 1, .int 2], .tuple [.int 1, .int 2]])] [] = .ok (.d (.str (ruleT [(1, 2), (1, 2)]))) [] := showRule_ok (K := 10) (ps := [(1, 2), (1, 2)]) (by decide) ⟨fun r hr => by
    have : r = (1, 2) := by simpa using hr
    subst this
    exact ⟨by decide, by decide, show (1 : Int).natAbs < 2 ^ 10 by decide, show (2 : Int).natAbs < 2 ^ 10 by decide⟩⟩ (by decide)
  have t1 : shT (-3) 4 = ("-3/4" : Str) := by decide +kernel
  have t2 : shT 0 1 = ("0" : Str) := by decide +kernel
  have t3 : ruleT [(1, 2), (1, 2)] = ("1/2 1/2" : Str) := by decide +kernel
  rw [t1] at h1
  rw [t2] at h2
  rw [t3] at h3
  simp [h1, h2, h3]
theorem law_true (ns : List Int) (hl : ns.length ≤ 63) : f_law [.d (.list (ns.map PyData.int))] [] = .ok (.d (.bool true)) [] := by
  unfold f_law
  refine run_eq ?_
  unfold c_law
  have e0 := penL_new (ns := ns) hl
  let SC : Sl := .d (.list (ns.map PyData.int))
  let ST := fun (x2 x3 x4 x5 x6 x7 x8 x9 x10 x11 x12 : Sl) (m : List Cell) => (⟨[SC, .c 0, x2, x3, x4, x5, x6, x7, x8, x9, x10, x11, x12], m⟩ : S)
  refine st (s1 := ST .u .u .u .u .u .u .u .u .u .u .u [penL ns 0 0]) (by simp [e0]; exact .rfl) ?_
  refine w_cut (fun s => ∃ x2 x3 x4 x5 x6 x7 x8 x9 x10 x11 x12 m, s = ST x2 x3 x4 x5 x6 x7 x8 x9 x10 x11 x12 m) ?_ fun s hs => ?_
  rotate_left
  · obtain ⟨x2, x3, x4, x5, x6, x7, x8, x9, x10, x11, x12, m, rfl⟩ := hs
    exact w_ret (x := .d (.bool true)) (s1 := ST x2 x3 x4 x5 x6 x7 x8 x9 x10 x11 x12 m) (by rw [last_59]; exact .rfl) (ok_d ⟨rfl, by simp⟩)
  refine w_for (fun i s => ∃ x2 x3 x4 x5 x6 x7 x8 x9 x10 x11 x12 p r, s = ST x2 x3 x4 x5 x6 x7 x8 x9 x10 x11 x12 (p :: r) ∧ IsPenL (300 * i) p) (ciR1_c (n := 5) (by decide) (by decide)) ⟨_, _, _, _, _, _, _, _, _, _, _, _, [], rfl, penL_is hl⟩ (fun i d s hd hi => ?_) fun s hi => by
    obtain ⟨x2, x3, x4, x5, x6, x7, x8, x9, x10, x11, x12, p, r, h, _⟩ := hi
    exact ⟨_, _, _, _, _, _, _, _, _, _, _, _, h⟩
  obtain ⟨x2, x3, x4, x5, x6, x7, x8, x9, x10, x11, x12, p, r, rfl, hp⟩ := hi
  obtain ⟨hi, rfl⟩ := rangeD_lt hd
  have hi : i < 5 := hi
  let d2 : Sl := .d (.int (0 + (i : Int)))
  refine ⟨ST d2 x3 x4 x5 x6 x7 x8 x9 x10 x11 x12 (p :: r), rfl, ?_⟩
  obtain ⟨v, p1, e1, v0, v6, hp1⟩ := dC r 6 hp
  obtain ⟨n, hn⟩ : ∃ n : Nat, 1 + v = (n : Int) := ⟨(1 + v).toNat, by omega⟩
  let d3 : Sl := .d (.int (n : Nat))
  refine st (s1 := ST d2 d3 x4 x5 x6 x7 x8 x9 x10 x11 x12 (p1 :: r)) (by simp [ST, e1, hn]; exact .rfl) ?_
  obtain ⟨a, b, p2, e2, s1, hp2⟩ := part_ok r hp1 (by omega)
  let d4 : Sl := .d (shD a b)
  refine st (s1 := ST d2 d3 d4 x5 x6 x7 x8 x9 x10 x11 x12 (p2 :: r)) (by simp [ST, e2]; exact .rfl) ?_
  obtain ⟨a2, b2, p3, e3, s2, hp3⟩ := part_ok r hp2 (by omega)
  obtain ⟨a3, b3, p4, e4, s3, hp4⟩ := part_ok r hp3 (by omega)
  obtain ⟨a4, b4, e5, s4, _⟩ := times_ok s1 s2 (by decide)
  obtain ⟨g, h, e6, s5, _⟩ := times_ok s4 s3 (by decide)
  let d5 : Sl := .d (shD g h)
  refine st (s1 := ST d2 d3 d4 d5 x6 x7 x8 x9 x10 x11 x12 (p4 :: r)) (by simp [ST, d4, e3, e4, e5, e6]; exact .rfl) ?_
  obtain ⟨v2, p5, e7, v20, v21, hp5⟩ := dC r 41 hp4
  obtain ⟨bl, hbl⟩ : ∃ b : Nat, v2 = (b : Int) := ⟨v2.toNat, by omega⟩
  subst hbl
  obtain ⟨k, p6, e8, L, hp6⟩ := loadC_ok (n := n) (b := bl) r hp5 (by omega) (by omega) (by omega) (by omega)
  let d6 : Sl := .d (ldD k)
  refine st (s1 := ST d2 d3 d4 d5 d6 x7 x8 x9 x10 x11 x12 (p6 :: r)) (by simp [ST, d3, e7, e8]; exact .rfl) ?_
  have r2 := ciR1_n (c := cVar 3) (s := ST d2 d3 d4 d5 d6 x7 x8 x9 x10 x11 x12 (p6 :: r)) (s1 := ST d2 d3 d4 d5 d6 x7 x8 x9 x10 x11 x12 (p6 :: r)) (n := n) (by simp [ST, d3]) (by omega)
  obtain ⟨acc, m', e9, hal, hJ, p7, rfl, hp7⟩ := lc_draws (own := [12]) (tg := tgN 12) (el := (cCall f__law_draw (lCons (cVar 1) (lCons (cC (.int 7)) lNil)))) (fun j m => ∃ p, m = p :: r ∧ IsPenL (300 * i + 100 + j) p) (fun d => ∃ i, d = .int i ∧ 0 ≤ i ∧ i ≤ 6) r2 (by simp; omega) ⟨p6, rfl, hp6.mono (by omega)⟩ fun j mm d hd hi => by
    obtain ⟨p, rfl, hp⟩ := hi
    have hj : j < n := by
      have := (List.getElem?_eq_some_iff.mp hd).1
      simpa using this
    obtain ⟨y, p', e, y0, y1, hp'⟩ := dC r 7 hp
    exact ⟨_, rfl, .int y, [SC, .c 0, d2, d3, d4, d5, d6, x7, x8, x9, x10, x11, .d d], p' :: r, by simp [ST, e], ⟨y, rfl, y0, by omega⟩, p', rfl, hp'⟩
  obtain ⟨ys, rfl, hys⟩ := ints_of (fun i => 0 ≤ i ∧ i ≤ 6) hJ
  rw [List.length_map, List.length_map, List.length_range] at hal
  rw [List.length_map, List.length_range] at hp7
  let d7 : Sl := .d (ldD ys)
  refine st (s1 := ST d2 d3 d4 d5 d6 d7 x8 x9 x10 x11 x12 (p7 :: r)) (by
    simp only [ST] at e9 ⊢
    simp [e9]
    exact .rfl) ?_
  obtain ⟨v3, p8, e10, v30, v31, hp8⟩ := dC r 12 hp7
  obtain ⟨n2, hn2⟩ : ∃ n : Nat, 1 + v3 = (n : Int) := ⟨(1 + v3).toNat, by omega⟩
  obtain ⟨ds, p9, e11, RU, hp9⟩ := ruleC_r (n := n2) r hp8 (by omega) (by omega) (by omega)
  obtain ⟨ps, rfl, pl, SL, rb⟩ := ru_rule RU (by omega) (by omega)
  let d8 : Sl := .d (.tuple (ps.map prD))
  refine st (s1 := ST d2 d3 d4 d5 d6 d7 d8 x9 x10 x11 x12 (p9 :: r)) (by simp [ST, e10, hn2, e11]; exact .rfl) ?_
  -- sizes
  have kk : ∀ x, x ∈ k → Bs 135 x := fun x hx => by
    have h0 := L.pos x hx
    have := mem_le_sum L.pos x hx
    rw [L.sum] at this
    show x.natAbs < 2 ^ 135
    have : x.natAbs < 2 ^ 60 := by omega
    exact Nat.lt_of_lt_of_le this (Nat.pow_le_pow_right (by decide) (by decide))
  have ky : ∀ x, x ∈ ys → Bs 135 x := fun x hx => by
    have := hys x hx
    have : x.natAbs < 2 ^ 60 := by omega
    exact Nat.lt_of_lt_of_le this (Nat.pow_le_pow_right (by decide) (by decide))
  have SL2 : ShL 200 ps := ⟨fun r hr => (SL.sh r hr).mono (by decide)⟩
  have K4 := (kd_sh s1 (by decide)).mono (n' := 9000) (m' := 2) (by decide) (by decide)
  have K5 := (kd_sh s5 (by decide)).mono (n' := 9000) (m' := 2) (by decide) (by decide)
  have K6 := (kd_ld kk (by decide)).mono (n' := 9000) (m' := 2) (by rw [L.len]; omega) (by decide)
  have K7 := (kd_ld ky (by decide)).mono (n' := 9000) (m' := 2) (by omega) (by decide)
  have K8 := (kd_ps SL (by decide)).mono (n' := 9000) (m' := 2) (by rw [pl]; omega) (by decide)
  have KA := (Kd.list (ds := [shD a b, shD g h, ldD k, ldD ys, .tuple (ps.map prD)]) fun d hd => by
    rcases List.mem_cons.mp hd with rfl | hd
    · exact K4
    rcases List.mem_cons.mp hd with rfl | hd
    · exact K5
    rcases List.mem_cons.mp hd with rfl | hd
    · exact K6
    rcases List.mem_cons.mp hd with rfl | hd
    · exact K7
    · rw [List.mem_singleton.mp hd]
      exact K8).rep (by simp) (by decide)
  have R4 := K4.rep (by decide) (by decide)
  have R5 := K5.rep (by decide) (by decide)
  have R6 := K6.rep (by decide) (by decide)
  have R7 := K7.rep (by decide) (by decide)
  have R8 := K8.rep (by decide) (by decide)
  have T4 := share_text (K := 45) (by decide) s1
  have T5 := share_text (by decide) s5
  have T6 := load_text (by decide) kk (by rw [L.len]; omega)
  have T7 := load_text (by decide) ky (by omega)
  have T8 := rule_text (by decide) SL (by omega)
  have W4 := right2 (showShare_ok s1.bp s1.bq (by decide)) (readShare_ok (by decide) s1) R4
  have W5 := right2 (showShare_ok s5.bp s5.bq (by decide)) (readShare_ok (by decide) s5) R5
  have W6 := right2 (showLoad_ok (by decide) kk (by rw [L.len]; omega)) (readLoad_ok (by decide) kk (L.load (by omega) (by omega))) R6
  have W7 := right1 (showLoad_ok (by decide) ky (by omega))
  have W8 := right2 (showRule_ok (by decide) SL (by omega)) (readRule_ok SL2 (by omega) (by omega) rb) R8
  obtain ⟨z, hz⟩ : ∃ z, (PyData.list [shD a b, shD g h, ldD k, ldD ys, .tuple (ps.map prD)]).shown = z := ⟨_, rfl⟩
  rw [hz] at KA
  clear hz R4 R5 R6 R7 R8 K4 K5 K6 K7 K8
  let D4 := shD a b
  let D5 := shD g h
  obtain ⟨t4, h4⟩ : ∃ t, shT a b = t := ⟨_, rfl⟩
  obtain ⟨t5, h5⟩ : ∃ t, shT g h = t := ⟨_, rfl⟩
  obtain ⟨t6, h6⟩ : ∃ t, loadT k = t := ⟨_, rfl⟩
  obtain ⟨t7, h7⟩ : ∃ t, loadT ys = t := ⟨_, rfl⟩
  obtain ⟨t8, h8⟩ : ∃ t, ruleT ps = t := ⟨_, rfl⟩
  rw [h4] at T4 W4
  rw [h5] at T5 W5
  rw [h6] at T6 W6
  rw [h7] at T7 W7
  rw [h8] at T8 W8
  let d9 : Sl := .d (.str z)
  refine st (s1 := ST d2 d3 d4 d5 d6 d7 d8 d9 x10 x11 x12 (p9 :: r)) (by
    simp only [ST, d4, d5, d6, d7, d8, d9]
    simp [KA]
    exact .rfl) ?_
  refine w_cut (fun s => ∃ x10 x11, s = ST d2 d3 d4 d5 d6 d7 d8 d9 x10 x11 x12 (p9 :: r)) ?_ fun s hs => ?_
  rotate_left
  · obtain ⟨x10, x11, rfl⟩ := hs
    refine w_ifF (s1 := ST d2 d3 d4 d5 d6 d7 d8 d9 x10 x11 x12 (p9 :: r)) (by
      simp only [ST, d4, d5, d6, d7, d8, d9]
      simp [KA, str_ne]
      exact .rfl) (w_nx ⟨_, _, _, _, _, _, _, _, _, _, _, p9, r, rfl, hp9.mono (by omega)⟩)
  refine w_for (fun j s => ∃ x10 x11, s = ST d2 d3 d4 d5 d6 d7 d8 d9 x10 x11 x12 (p9 :: r)) (ciR1_c (n := 2) (by decide) (by decide)) ⟨_, _, rfl⟩ (fun j d s hd hj => ?_) fun s h => h
  obtain ⟨x10, x11, rfl⟩ := hj
  obtain ⟨hj, rfl⟩ := rangeD_lt hd
  let d10 : Sl := .d (.int (0 + (j : Int)))
  refine ⟨ST d2 d3 d4 d5 d6 d7 d8 d9 d10 x11 x12 (p9 :: r), rfl, ?_⟩
  refine w_cut (fun s => ∃ x11, s = ST d2 d3 d4 d5 d6 d7 d8 d9 d10 x11 x12 (p9 :: r)) ?_ fun s hs => ?_
  · refine w_for (ds := [shD a b, shD g h]) (fun j s => ∃ x11, s = ST d2 d3 d4 d5 d6 d7 d8 d9 d10 x11 x12 (p9 :: r)) (s1 := ST d2 d3 d4 d5 d6 d7 d8 d9 d10 x11 x12 (p9 :: r)) (by simp [ST, d4, d5]; exact .rfl) ⟨_, rfl⟩ (fun l d s hd hl => ?_) fun s h => h
    obtain ⟨x11, rfl⟩ := hl
    refine ⟨ST d2 d3 d4 d5 d6 d7 d8 d9 d10 (.d d) x12 (p9 :: r), rfl, ?_⟩
    have hd := List.mem_of_getElem? hd
    have cc : cCallFn2 (f2__law_right f_show_share f_read_share) (lCons (cVar 11) (lCons (cCallP f__law_share_text (lCons (cVar 11) lNil)) lNil)) (ST d2 d3 d4 d5 d6 d7 d8 d9 d10 (.d d) x12 (p9 :: r)) = .ok (.d (.bool true)) (ST d2 d3 d4 d5 d6 d7 d8 d9 d10 (.d d) x12 (p9 :: r)) := by
      rcases List.mem_cons.mp hd with rfl | hd
      · generalize shD a b = D at *
        exact callFn2_s (by simp [ST, T4]) W4
      · rw [List.mem_singleton.mp hd]
        generalize shD g h = D at *
        exact callFn2_s (by simp [ST, T5]) W5
    refine w_ifF (s1 := ST d2 d3 d4 d5 d6 d7 d8 d9 d10 (.d d) x12 (p9 :: r)) ?_ (w_nx ⟨_, rfl⟩)
    generalize ST d2 d3 d4 d5 d6 d7 d8 d9 d10 (.d d) x12 (p9 :: r) = s at *
    simp [cc]
    exact .rfl
  · obtain ⟨x11, rfl⟩ := hs
    have c6 : cCallFn2 (f2__law_right f_show_load f_read_load) (lCons (cVar 6) (lCons (cCallP f__law_load_text (lCons (cVar 6) lNil)) lNil)) (ST d2 d3 d4 d5 d6 d7 d8 d9 d10 x11 x12 (p9 :: r)) = .ok (.d (.bool true)) (ST d2 d3 d4 d5 d6 d7 d8 d9 d10 x11 x12 (p9 :: r)) := callFn2_s (by simp [ST, d6, T6]) W6
    have c7 : cCallFn (f1__law_right f_show_load) (lCons (cC .none) (lCons (cVar 7) (lCons (cCallP f__law_load_text (lCons (cVar 7) lNil)) lNil))) (ST d2 d3 d4 d5 d6 d7 d8 d9 d10 x11 x12 (p9 :: r)) = .ok (.d (.bool true)) (ST d2 d3 d4 d5 d6 d7 d8 d9 d10 x11 x12 (p9 :: r)) := callFn3_s (by simp [ST, d7, T7]) W7
    have c8 : cCallFn2 (f2__law_right f_show_rule f_read_rule) (lCons (cVar 8) (lCons (cCallP f__law_rule_text (lCons (cVar 8) lNil)) lNil)) (ST d2 d3 d4 d5 d6 d7 d8 d9 d10 x11 x12 (p9 :: r)) = .ok (.d (.bool true)) (ST d2 d3 d4 d5 d6 d7 d8 d9 d10 x11 x12 (p9 :: r)) := callFn2_s (by simp [ST, d8, T8]) W8
    have eX : ∃ x11', ST d2 d3 d4 d5 d6 d7 d8 d9 d10 x11 x12 (p9 :: r) = ST d2 d3 d4 d5 d6 d7 d8 d9 d10 x11' x12 (p9 :: r) := ⟨_, rfl⟩
    generalize ST d2 d3 d4 d5 d6 d7 d8 d9 d10 x11 x12 (p9 :: r) = s at *
    refine w_sif (x := false) (s1 := s) (by simp [c6]; exact .rfl) (fun z => nomatch z) fun _ => w_nxS ?_
    refine w_sif (x := false) (s1 := s) (by simp [c7]; exact .rfl) (fun z => nomatch z) fun _ => w_nxS ?_
    refine w_ifF (s1 := s) (by simp [c8]; exact .rfl) (w_nx ?_)
    obtain ⟨x11', e⟩ := eX
    exact ⟨_, x11', e⟩
end Vm
namespace Vm
open PySem L2 PySem.Spec PyProof.Rows
def topS (i : Nat) : Stmt := PySem.Challenge.pw_emptierbox_k59_shares_loads_rules_as_tex.main.body.getD i (.Pass ⟨0, 0, 0, 0⟩)
abbrev s_show_share : Stmt := topS 1
abbrev N_show_share : List Str := ["a"]
theorem sc_show_share : FnScope N_show_share ["a"] (defScope s_show_share) := ⟨rfl, rfl, rfl, by decide +kernel, rfl, by decide +kernel, by decide +kernel⟩
abbrev s_show_load : Stmt := topS 2
abbrev N_show_load : List Str := ["load", "number"]
theorem sc_show_load : FnScope N_show_load ["load"] (defScope s_show_load) := ⟨rfl, rfl, rfl, by decide +kernel, rfl, by decide +kernel, by decide +kernel⟩
abbrev s_show_rule : Stmt := topS 3
abbrev N_show_rule : List Str := ["rule", "part"]
theorem sc_show_rule : FnScope N_show_rule ["rule"] (defScope s_show_rule) := ⟨rfl, rfl, rfl, by decide +kernel, rfl, by decide +kernel, by decide +kernel⟩
abbrev s_is_whole : Stmt := topS 9
abbrev N_is_whole : List Str := ["thing"]
theorem sc_is_whole : FnScope N_is_whole ["thing"] (defScope s_is_whole) := ⟨rfl, rfl, rfl, by decide +kernel, rfl, by decide +kernel, by decide +kernel⟩
abbrev s_measure : Stmt := topS 10
abbrev N_measure : List Str := ["a", "b"]
theorem sc_measure : FnScope N_measure ["a", "b"] (defScope s_measure) := ⟨rfl, rfl, rfl, by decide +kernel, rfl, by decide +kernel, by decide +kernel⟩
abbrev s_share : Stmt := topS 11
abbrev N_share : List Str := ["top", "bottom", "common"]
theorem sc_share : FnScope N_share ["top", "bottom"] (defScope s_share) := ⟨rfl, rfl, rfl, by decide +kernel, rfl, by decide +kernel, by decide +kernel⟩
abbrev s_is_share : Stmt := topS 12
abbrev N_is_share : List Str := ["thing", "part"]
theorem sc_is_share : FnScope N_is_share ["thing"] (defScope s_is_share) := ⟨rfl, rfl, rfl, by decide +kernel, rfl, by decide +kernel, by decide +kernel⟩
abbrev s_plus : Stmt := topS 13
abbrev N_plus : List Str := ["a", "b"]
theorem sc_plus : FnScope N_plus ["a", "b"] (defScope s_plus) := ⟨rfl, rfl, rfl, by decide +kernel, rfl, by decide +kernel, by decide +kernel⟩
abbrev s_times : Stmt := topS 14
abbrev N_times : List Str := ["a", "b"]
theorem sc_times : FnScope N_times ["a", "b"] (defScope s_times) := ⟨rfl, rfl, rfl, by decide +kernel, rfl, by decide +kernel, by decide +kernel⟩
abbrev s_total : Stmt := topS 15
abbrev N_total : List Str := ["some", "found", "one"]
theorem sc_total : FnScope N_total ["some"] (defScope s_total) := ⟨rfl, rfl, rfl, by decide +kernel, rfl, by decide +kernel, by decide +kernel⟩
abbrev s_is_load : Stmt := topS 18
abbrev N_is_load : List Str := ["thing", "number", "at"]
theorem sc_is_load : FnScope N_is_load ["thing"] (defScope s_is_load) := ⟨rfl, rfl, rfl, by decide +kernel, rfl, by decide +kernel, by decide +kernel⟩
abbrev s_is_rule : Stmt := topS 21
abbrev N_is_rule : List Str := ["thing", "one"]
theorem sc_is_rule : FnScope N_is_rule ["thing"] (defScope s_is_rule) := ⟨rfl, rfl, rfl, by decide +kernel, rfl, by decide +kernel, by decide +kernel⟩
abbrev s_number_in : Stmt := topS 24
abbrev N_number_in : List Str := ["word", "sign"]
theorem sc_number_in : FnScope N_number_in ["word"] (defScope s_number_in) := ⟨rfl, rfl, rfl, by decide +kernel, rfl, by decide +kernel, by decide +kernel⟩
abbrev s_signed_in : Stmt := topS 25
abbrev N_signed_in : List Str := ["word", "found"]
theorem sc_signed_in : FnScope N_signed_in ["word"] (defScope s_signed_in) := ⟨rfl, rfl, rfl, by decide +kernel, rfl, by decide +kernel, by decide +kernel⟩
abbrev s_share_in : Stmt := topS 26
abbrev N_share_in : List Str := ["word", "top", "sign", "bottom", "found"]
theorem sc_share_in : FnScope N_share_in ["word"] (defScope s_share_in) := ⟨rfl, rfl, rfl, by decide +kernel, rfl, by decide +kernel, by decide +kernel⟩
abbrev s_load_in : Stmt := topS 27
abbrev N_load_in : List Str := ["text", "found", "word"]
theorem sc_load_in : FnScope N_load_in ["text"] (defScope s_load_in) := ⟨rfl, rfl, rfl, by decide +kernel, rfl, by decide +kernel, by decide +kernel⟩
abbrev s_need_text : Stmt := topS 28
abbrev N_need_text : List Str := ["thing"]
theorem sc_need_text : FnScope N_need_text ["thing"] (defScope s_need_text) := ⟨rfl, rfl, rfl, by decide +kernel, rfl, by decide +kernel, by decide +kernel⟩
abbrev s_read_share : Stmt := topS 29
abbrev N_read_share : List Str := ["text"]
theorem sc_read_share : FnScope N_read_share ["text"] (defScope s_read_share) := ⟨rfl, rfl, rfl, by decide +kernel, rfl, by decide +kernel, by decide +kernel⟩
abbrev s_read_load : Stmt := topS 30
abbrev N_read_load : List Str := ["text"]
theorem sc_read_load : FnScope N_read_load ["text"] (defScope s_read_load) := ⟨rfl, rfl, rfl, by decide +kernel, rfl, by decide +kernel, by decide +kernel⟩
abbrev s_read_rule : Stmt := topS 31
abbrev N_read_rule : List Str := ["text", "found", "word"]
theorem sc_read_rule : FnScope N_read_rule ["text"] (defScope s_read_rule) := ⟨rfl, rfl, rfl, by decide +kernel, rfl, by decide +kernel, by decide +kernel⟩
abbrev s__law_pen : Stmt := topS 33
abbrev N__law_pen : List Str := ["_law_script"]
theorem sc__law_pen : FnScope N__law_pen ["_law_script"] (defScope s__law_pen) := ⟨rfl, rfl, rfl, by decide +kernel, rfl, by decide +kernel, by decide +kernel⟩
abbrev s__law_draw : Stmt := topS 34
abbrev N__law_draw : List Str := ["_law_pen_here", "_law_many", "_law_digit", "_law_at", "_law_cell", "_law_mixed_in"]
theorem sc__law_draw : FnScope N__law_draw ["_law_pen_here", "_law_many"] (defScope s__law_draw) := ⟨rfl, rfl, rfl, by decide +kernel, rfl, by decide +kernel, by decide +kernel⟩
abbrev s__law_measure : Stmt := topS 35
abbrev N__law_measure : List Str := ["_law_a", "_law_b"]
theorem sc__law_measure : FnScope N__law_measure ["_law_a", "_law_b"] (defScope s__law_measure) := ⟨rfl, rfl, rfl, by decide +kernel, rfl, by decide +kernel, by decide +kernel⟩
abbrev s__law_lowest : Stmt := topS 36
abbrev N__law_lowest : List Str := ["_law_top", "_law_bottom", "_law_much"]
theorem sc__law_lowest : FnScope N__law_lowest ["_law_top", "_law_bottom"] (defScope s__law_lowest) := ⟨rfl, rfl, rfl, by decide +kernel, rfl, by decide +kernel, by decide +kernel⟩
abbrev s__law_power : Stmt := topS 38
abbrev N__law_power : List Str := ["_law_number", "_law_many", "_law_found", "_law_k"]
theorem sc__law_power : FnScope N__law_power ["_law_number", "_law_many"] (defScope s__law_power) := ⟨rfl, rfl, rfl, by decide +kernel, rfl, by decide +kernel, by decide +kernel⟩
abbrev s__law_rule : Stmt := topS 37
abbrev N__law_rule : List Str := ["_law_pen_here", "_law_n", "_law_way", "_law_at", "_law_many", "_law_tops", "_law_bottom", "_law_cuts", "_law_weights", "_law_k", "_law_weight"]
theorem sc__law_rule : FnScope N__law_rule ["_law_pen_here", "_law_n"] (defScope s__law_rule) := ⟨rfl, rfl, rfl, by decide +kernel, rfl, by decide +kernel, by decide +kernel⟩
abbrev s__law_load : Stmt := topS 39
abbrev N__law_load : List Str := ["_law_pen_here", "_law_n", "_law_balls", "_law_way", "_law_cuts", "_law_near", "_law_k"]
theorem sc__law_load : FnScope N__law_load ["_law_pen_here", "_law_n", "_law_balls"] (defScope s__law_load) := ⟨rfl, rfl, rfl, by decide +kernel, rfl, by decide +kernel, by decide +kernel⟩
abbrev s__law_figures : Stmt := topS 40
abbrev N__law_figures : List Str := ["_law_number", "_law_rest", "_law_found"]
theorem sc__law_figures : FnScope N__law_figures ["_law_number"] (defScope s__law_figures) := ⟨rfl, rfl, rfl, by decide +kernel, rfl, by decide +kernel, by decide +kernel⟩
abbrev s__law_share_text : Stmt := topS 41
abbrev N__law_share_text : List Str := ["_law_part_here"]
theorem sc__law_share_text : FnScope N__law_share_text ["_law_part_here"] (defScope s__law_share_text) := ⟨rfl, rfl, rfl, by decide +kernel, rfl, by decide +kernel, by decide +kernel⟩
abbrev s__law_load_text : Stmt := topS 42
abbrev N__law_load_text : List Str := ["_law_load_here", "_law_number"]
theorem sc__law_load_text : FnScope N__law_load_text ["_law_load_here"] (defScope s__law_load_text) := ⟨rfl, rfl, rfl, by decide +kernel, rfl, by decide +kernel, by decide +kernel⟩
abbrev s__law_rule_text : Stmt := topS 43
abbrev N__law_rule_text : List Str := ["_law_rule_here", "_law_part_here"]
theorem sc__law_rule_text : FnScope N__law_rule_text ["_law_rule_here"] (defScope s__law_rule_text) := ⟨rfl, rfl, rfl, by decide +kernel, rfl, by decide +kernel, by decide +kernel⟩
abbrev s__law_part : Stmt := topS 44
abbrev N__law_part : List Str := ["_law_pen_here", "_law_way", "_law_far", "_law_top", "_law_under", "_law_bottom"]
theorem sc__law_part : FnScope N__law_part ["_law_pen_here"] (defScope s__law_part) := ⟨rfl, rfl, rfl, by decide +kernel, rfl, by decide +kernel, by decide +kernel⟩
abbrev s__law_right : Stmt := topS 45
abbrev N__law_right : List Str := ["_law_shower", "_law_reader", "_law_thing", "_law_text", "_law_told"]
theorem sc__law_right : FnScope N__law_right ["_law_shower", "_law_reader", "_law_thing", "_law_text"] (defScope s__law_right) := ⟨rfl, rfl, rfl, by decide +kernel, rfl, by decide +kernel, by decide +kernel⟩
abbrev s_law : Stmt := topS 46
abbrev N_law : List Str := ["_law_script", "_law_pen_here", "_law_lap", "_law_n", "_law_part_here", "_law_great", "_law_load_here", "_law_stand", "_law_rule_here", "_law_kept", "_law_again", "_law_one", "_law_k"]
theorem sc_law : FnScope N_law ["_law_script"] (defScope s_law) := ⟨rfl, rfl, rfl, by decide +kernel, rfl, by decide +kernel, by decide +kernel⟩
/-- what the top leaves beside the defs -/
structure Txt (K : Fg) (mg : Str → Option Value) (ec : EC) : Prop where
  z_abs : mg "abs" = none
  z_all : mg "all" = none
  z_bool : mg "bool" = none
  z_int : mg "int" = none
  z_isinstance : mg "isinstance" = none
  z_len : mg "len" = none
  z_list : mg "list" = none
  z_min : mg "min" = none
  z_range : mg "range" = none
  z_repr : mg "repr" = none
  z_sorted : mg "sorted" = none
  z_str : mg "str" = none
  z_sum : mg "sum" = none
  z_tuple : mg "tuple" = none
  x_NoShare : ExcF K mg ec "NoShare" "NoShare"
  x_NoText : ExcF K mg ec "NoText" "NoText"
  k_FIGURES : ∃ t, mg "FIGURES" = some (.str "0123456789" t)
  k_MOST_BOXES : ∃ t, mg "MOST_BOXES" = some (.int 6 t)
  k_MOST_RANKS : ∃ t, mg "MOST_RANKS" = some (.int 12 t)
  w : Bas ec.w
theorem txt_fn2 {K : Fg} {mg : Str → Option Value} {ec : EC} (T : Txt K mg ec) (a b : Addr) : Txt K mg (ec.fn2 a b) := ⟨T.z_abs, T.z_all, T.z_bool, T.z_int, T.z_isinstance, T.z_len, T.z_list, T.z_min, T.z_range, T.z_repr, T.z_sorted, T.z_str, T.z_sum, T.z_tuple, (T.x_NoShare.fn2 a b), (T.x_NoText.fn2 a b), T.k_FIGURES, T.k_MOST_BOXES, T.k_MOST_RANKS, T.w⟩
theorem txt_fn {K : Fg} {mg : Str → Option Value} {ec : EC} (T : Txt K mg ec) (a : Addr) : Txt K mg (ec.fn a) := ⟨T.z_abs, T.z_all, T.z_bool, T.z_int, T.z_isinstance, T.z_len, T.z_list, T.z_min, T.z_range, T.z_repr, T.z_sorted, T.z_str, T.z_sum, T.z_tuple, (T.x_NoShare.fn a), (T.x_NoText.fn a), T.k_FIGURES, T.k_MOST_BOXES, T.k_MOST_RANKS, T.w⟩
section
variable {P : Program} {wo : World} {K : Fg} {mg : Str → Option Value} {base : Heap} {ec : EC}
theorem ok_show_share (T : Txt K mg ec) (Df : DefF K mg "show_share" s_show_share ["a"])   : Cal P wo K mg base ec "show_share" ["a"] f_show_share 1 :=
  Df.cal fun F => fn_ok (k := 0) F sc_show_share c_show_share fun cdv A outer s H E hr tk hp => by
    have nd := sc_show_share.nd
    have hu := hr.units
    have hu1 := hu_of hr
    have hw := T.w
    exact (b_cons (s_if (t_cmp (op_eqV hu) s_eq (e_ixR ixr_V s_ix (e_var 0) e_int) e_int)
 (b_one (s_ret (e_callT1 (call_strV hr) s_str T.z_str PyProof.Rows.boot_str (e_ixR ixr_V s_ix (e_var 0) e_int))))
 b_nil)
 (b_one (s_ret (e_bin or_add s_add (e_bin or_add s_add (e_callT1 (call_strV hr) s_str T.z_str PyProof.Rows.boot_str (e_ixR ixr_V s_ix (e_var 0) e_int)) e_str) (e_callT1 (call_strV hr) s_str T.z_str PyProof.Rows.boot_str (e_ixR ixr_V s_ix (e_var 0) e_int))))))
theorem ok_show_load (T : Txt K mg ec) (Df : DefF K mg "show_load" s_show_load ["load"])   : Cal P wo K mg base ec "show_load" ["load"] f_show_load 1 :=
  Df.cal fun F => fn_ok (k := 0) F sc_show_load c_show_load fun cdv A outer s H E hr tk hp => by
    have nd := sc_show_load.nd
    have hu := hr.units
    have hu1 := hu_of hr
    have hw := T.w
    exact (b_one (s_ret (e_join e_str (e_lc (own := [("number", 1)]) nd (blkOk_by (own := [("number", 1)]) (N := N_show_load) (sc := defScope s_show_load) (by decide +kernel)) (i_seq (e_var 0)) (fun _ _ _ _ _ => (g_name 1 nd (by decide))) (fun _ _ _ _ _ => ts_nil) (fun _ _ _ _ _ => (e_callT1 (call_strV hr) s_str T.z_str PyProof.Rows.boot_str (e_var 1)))))))
theorem ok_show_rule (T : Txt K mg ec) (Df : DefF K mg "show_rule" s_show_rule ["rule"])  (C_show_share : Cal P wo K mg base ec "show_share" ["a"] f_show_share 1) : Cal P wo K mg base ec "show_rule" ["rule"] f_show_rule 2 :=
  Df.cal fun F => fn_ok (k := 1) F sc_show_rule c_show_rule fun cdv A outer s H E hr tk hp => by
    have nd := sc_show_rule.nd
    have hu := hr.units
    have hu1 := hu_of hr
    have hw := T.w
    exact (b_one (s_ret (e_join e_str (e_lc (own := [("part", 1)]) nd (blkOk_by (own := [("part", 1)]) (N := N_show_rule) (sc := defScope s_show_rule) (by decide +kernel)) (i_seq (e_var 0)) (fun _ _ _ _ _ => (g_name 1 nd (by decide))) (fun _ _ _ _ _ => ts_nil) (fun _ _ _ _ _ => (e_callP C_show_share (hr.mono (by decide)) takes0 (l_cons (e_var 1) l_nil) (ll_cons ll_nil)))))))
theorem ok_is_whole (T : Txt K mg ec) (Df : DefF K mg "is_whole" s_is_whole ["thing"])   : Cal P wo K mg base ec "is_whole" ["thing"] f_is_whole 1 :=
  Df.cal fun F => fn_ok (k := 0) F sc_is_whole c_is_whole fun cdv A outer s H E hr tk hp => by
    have nd := sc_is_whole.nd
    have hu := hr.units
    have hu1 := hu_of hr
    have hw := T.w
    exact (b_one (s_ret (e_and (e_isi (T := "int") T.z_isinstance T.z_int PyProof.Rows.boot_int (by decide +kernel) (e_var 0)) (e_one (e_not (e_isi (T := "bool") T.z_isinstance T.z_bool PyProof.Rows.boot_bool (by decide +kernel) (e_var 0)))))))
theorem ok_measure (T : Txt K mg ec) (Df : DefF K mg "measure" s_measure ["a", "b"])   : Cal P wo K mg base ec "measure" ["a", "b"] f_measure 1 :=
  Df.cal fun F => fn_ok (k := 0) F sc_measure c_measure fun cdv A outer s H E hr tk hp => by
    have nd := sc_measure.nd
    have hu := hr.units
    have hu1 := hu_of hr
    have hw := T.w
    exact (b_cons (s_while (fun _ => 1000000) hp (t_cmp (OpR.or op_gt (op_gtV hu)) s_ord (e_var 1) e_int)
 (b_one (s_par 0 1 nd (e_var 1) (e_bin op_modN s_mod (e_var 0) (e_var 1)) (by decide))))
 (b_one (s_ret (e_var 0))))
theorem ok_share (T : Txt K mg ec) (Df : DefF K mg "share" s_share ["top", "bottom"])  (C_measure : Cal P wo K mg base ec "measure" ["a", "b"] f_measure 1) : Cal P wo K mg base ec "share" ["top", "bottom"] f_share 2 :=
  Df.cal fun F => fn_ok (k := 1) F sc_share c_share fun cdv A outer s H E hr tk hp => by
    have nd := sc_share.nd
    have hu := hr.units
    have hu1 := hu_of hr
    have hw := T.w
    exact (b_cons (s_if (t_cmp (op_eqV hu) s_eq (e_var 1) e_int)
 (b_one (s_raise T.x_NoShare tk))
 b_nil)
 (b_cons (s_set 2 nd (e_callP C_measure (hr.mono (by decide)) tk (l_cons (e_call1 call_abs s_abs T.z_abs PyProof.Rows.boot_abs (e_var 0)) (l_cons (e_call1 call_abs s_abs T.z_abs PyProof.Rows.boot_abs (e_var 1)) l_nil)) (ll_cons (ll_cons ll_nil))))
 (b_cons (s_if (t_cmp (OpR.or op_lt (op_ltV hu)) s_ord (e_var 1) e_int)
 (b_one (s_set 2 nd (e_bin op_sub s_sub e_int (e_var 2))))
 b_nil)
 (b_one (s_ret (e_tup (a_cons (e_bin op_fdivV s_div (e_var 0) (e_var 2)) (a_cons (e_bin op_fdivV s_div (e_var 1) (e_var 2)) a_nil)) (CLen.le (cl_cons (cl_cons cl_nil)) (by decide))))))))
theorem ok_is_share (T : Txt K mg ec) (Df : DefF K mg "is_share" s_is_share ["thing"])  (C_is_whole : Cal P wo K mg base ec "is_whole" ["thing"] f_is_whole 1) (C_measure : Cal P wo K mg base ec "measure" ["a", "b"] f_measure 1) : Cal P wo K mg base ec "is_share" ["thing"] f_is_share 2 :=
  Df.cal fun F => fn_ok (k := 1) F sc_is_share c_is_share fun cdv A outer s H E hr tk hp => by
    have nd := sc_is_share.nd
    have hu := hr.units
    have hu1 := hu_of hr
    have hw := T.w
    exact (b_cons (s_if (t_bop (p_or (t_not (t_of (e_isi (T := "tuple") T.z_isinstance T.z_tuple PyProof.Rows.boot_tuple (by decide +kernel) (e_var 0)))) (p_or (t_cmp (op_neV hu) s_ne (e_call1 call_lenV s_len T.z_len PySem.boot_len (e_var 0)) e_int) (p_or1 (t_not (t_of (e_call1 (cr_all rfl) s_all T.z_all (by decide +kernel) (e_lc (own := [("part", 1)]) nd (blkOk_by (own := [("part", 1)]) (N := N_is_share) (sc := defScope s_is_share) (by decide +kernel)) (i_seq (e_var 0)) (fun _ _ _ _ _ => (g_name 1 nd (by decide))) (fun _ _ _ _ _ => ts_nil) (fun _ _ _ _ _ => (e_callP C_is_whole (hr.mono (by decide)) takes0 (l_cons (e_var 1) l_nil) (ll_cons ll_nil)))))))))))
 (b_one (s_ret e_bool))
 b_nil)
 (b_one (s_ret (e_and (e_cmp (OpR.or op_gt (op_gtV hu)) s_ord (e_ixR ixr_V s_ix (e_var 0) e_int) e_int) (e_one (e_cmp (op_eqV hu) s_eq (e_callP C_measure (hr.mono (by decide)) tk (l_cons (e_call1 call_abs s_abs T.z_abs PyProof.Rows.boot_abs (e_ixR ixr_V s_ix (e_var 0) e_int)) (l_cons (e_ixR ixr_V s_ix (e_var 0) e_int) l_nil)) (ll_cons (ll_cons ll_nil))) e_int))))))
theorem ok_plus (T : Txt K mg ec) (Df : DefF K mg "plus" s_plus ["a", "b"])  (C_share : Cal P wo K mg base ec "share" ["top", "bottom"] f_share 2) : Cal P wo K mg base ec "plus" ["a", "b"] f_plus 3 :=
  Df.cal fun F => fn_ok (k := 2) F sc_plus c_plus fun cdv A outer s H E hr tk hp => by
    have nd := sc_plus.nd
    have hu := hr.units
    have hu1 := hu_of hr
    have hw := T.w
    exact (b_one (s_ret (e_callP C_share (hr.mono (by decide)) tk (l_cons (e_bin or_add s_add (e_bin or_mul s_mulV (e_ixR ixr_V s_ix (e_var 0) e_int) (e_ixR ixr_V s_ix (e_var 1) e_int)) (e_bin or_mul s_mulV (e_ixR ixr_V s_ix (e_var 1) e_int) (e_ixR ixr_V s_ix (e_var 0) e_int))) (l_cons (e_bin or_mul s_mulV (e_ixR ixr_V s_ix (e_var 0) e_int) (e_ixR ixr_V s_ix (e_var 1) e_int)) l_nil)) (ll_cons (ll_cons ll_nil)))))
theorem ok_times (T : Txt K mg ec) (Df : DefF K mg "times" s_times ["a", "b"])  (C_share : Cal P wo K mg base ec "share" ["top", "bottom"] f_share 2) : Cal P wo K mg base ec "times" ["a", "b"] f_times 3 :=
  Df.cal fun F => fn_ok (k := 2) F sc_times c_times fun cdv A outer s H E hr tk hp => by
    have nd := sc_times.nd
    have hu := hr.units
    have hu1 := hu_of hr
    have hw := T.w
    exact (b_one (s_ret (e_callP C_share (hr.mono (by decide)) tk (l_cons (e_bin or_mul s_mulV (e_ixR ixr_V s_ix (e_var 0) e_int) (e_ixR ixr_V s_ix (e_var 1) e_int)) (l_cons (e_bin or_mul s_mulV (e_ixR ixr_V s_ix (e_var 0) e_int) (e_ixR ixr_V s_ix (e_var 1) e_int)) l_nil)) (ll_cons (ll_cons ll_nil)))))
theorem ok_total (T : Txt K mg ec) (Df : DefF K mg "total" s_total ["some"])  (C_plus : Cal P wo K mg base ec "plus" ["a", "b"] f_plus 3) : Cal P wo K mg base ec "total" ["some"] f_total 4 :=
  Df.cal fun F => fn_ok (k := 3) F sc_total c_total fun cdv A outer s H E hr tk hp => by
    have nd := sc_total.nd
    have hu := hr.units
    have hu1 := hu_of hr
    have hw := T.w
    exact (b_cons (s_set 1 nd (e_tup (a_cons e_int (a_cons e_int a_nil)) (CLen.le (cl_cons (cl_cons cl_nil)) (by decide))))
 (b_cons (s_for (own := [2]) hp (i_seq (e_var 0)) (g_name 2 nd (by decide))
 (b_one (s_set 1 nd (e_callP C_plus (hr.mono (by decide)) tk (l_cons (e_var 1) (l_cons (e_var 2) l_nil)) (ll_cons (ll_cons ll_nil))))))
 (b_one (s_ret (e_var 1)))))
theorem ok_is_load (T : Txt K mg ec) (Df : DefF K mg "is_load" s_is_load ["thing"])  (C_is_whole : Cal P wo K mg base ec "is_whole" ["thing"] f_is_whole 1) : Cal P wo K mg base ec "is_load" ["thing"] f_is_load 2 :=
  Df.cal fun F => fn_ok (k := 1) F sc_is_load c_is_load fun cdv A outer s H E hr tk hp => by
    have nd := sc_is_load.nd
    have hu := hr.units
    have hu1 := hu_of hr
    have hw := T.w
    exact (b_cons (s_if (t_bop (p_or (t_not (t_of (e_isi (T := "tuple") T.z_isinstance T.z_tuple PyProof.Rows.boot_tuple (by decide +kernel) (e_var 0)))) (p_or1 (t_not (t_chain (OpR.or op_le (op_leV hu)) (OpR.or op_le (op_leV hu)) s_ord s_ord e_int (e_call1 call_lenV s_len T.z_len PySem.boot_len (e_var 0)) (e_globI T.k_MOST_BOXES))))))
 (b_one (s_ret e_bool))
 b_nil)
 (b_cons (s_if (t_not (t_of (e_call1 (cr_all rfl) s_all T.z_all (by decide +kernel) (e_lc (own := [("number", 1)]) nd (blkOk_by (own := [("number", 1)]) (N := N_is_load) (sc := defScope s_is_load) (by decide +kernel)) (i_seq (e_var 0)) (fun _ _ _ _ _ => (g_name 1 nd (by decide))) (fun _ _ _ _ _ => ts_nil) (fun _ _ _ _ _ => (e_and (e_callP C_is_whole (hr.mono (by decide)) takes0 (l_cons (e_var 1) l_nil) (ll_cons ll_nil)) (e_one (e_cmp (OpR.or op_ge (op_geV hu)) s_ord (e_var 1) e_int))))))))
 (b_one (s_ret e_bool))
 b_nil)
 (b_one (s_ret (e_call1 (cr_all rfl) s_all T.z_all (by decide +kernel) (e_lc (own := [("at", 2)]) nd (blkOk_by (own := [("at", 2)]) (N := N_is_load) (sc := defScope s_is_load) (by decide +kernel)) (i_range1 (e_bin op_sub s_sub (e_call1 call_lenV s_len T.z_len PySem.boot_len (e_var 0)) e_int) T.z_range) (fun _ _ _ _ _ => (g_name 2 nd (by decide))) (fun _ _ _ _ _ => ts_nil) (fun _ _ _ _ _ => (e_cmp (OpR.or op_ge (op_geV hu)) s_ord (e_ixR ixr_V s_ix (e_var 0) (e_var 2)) (e_ixR ixr_V s_ix (e_var 0) (e_bin or_add s_add (e_var 2) e_int))))))))))
theorem ok_is_rule (T : Txt K mg ec) (Df : DefF K mg "is_rule" s_is_rule ["thing"])  (C_is_share : Cal P wo K mg base ec "is_share" ["thing"] f_is_share 2) (C_total : Cal P wo K mg base ec "total" ["some"] f_total 4) : Cal P wo K mg base ec "is_rule" ["thing"] f_is_rule 5 :=
  Df.cal fun F => fn_ok (k := 4) F sc_is_rule c_is_rule fun cdv A outer s H E hr tk hp => by
    have nd := sc_is_rule.nd
    have hu := hr.units
    have hu1 := hu_of hr
    have hw := T.w
    exact (b_cons (s_if (t_bop (p_or (t_not (t_of (e_isi (T := "tuple") T.z_isinstance T.z_tuple PyProof.Rows.boot_tuple (by decide +kernel) (e_var 0)))) (p_or1 (t_not (t_chain (OpR.or op_le (op_leV hu)) (OpR.or op_le (op_leV hu)) s_ord s_ord e_int (e_call1 call_lenV s_len T.z_len PySem.boot_len (e_var 0)) (e_globI T.k_MOST_RANKS))))))
 (b_one (s_ret e_bool))
 b_nil)
 (b_cons (s_if (t_not (t_of (e_call1 (cr_all rfl) s_all T.z_all (by decide +kernel) (e_lc (own := [("one", 1)]) nd (blkOk_by (own := [("one", 1)]) (N := N_is_rule) (sc := defScope s_is_rule) (by decide +kernel)) (i_seq (e_var 0)) (fun _ _ _ _ _ => (g_name 1 nd (by decide))) (fun _ _ _ _ _ => ts_nil) (fun _ _ _ _ _ => (e_and (e_callP C_is_share (hr.mono (by decide)) takes0 (l_cons (e_var 1) l_nil) (ll_cons ll_nil)) (e_one (e_cmp (OpR.or op_ge (op_geV hu)) s_ord (e_ixR ixr_V s_ix (e_var 1) e_int) e_int))))))))
 (b_one (s_ret e_bool))
 b_nil)
 (b_one (s_ret (e_cmp (op_eqV hu) s_eq (e_callP C_total (hr.mono (by decide)) tk (l_cons (e_callT1 call_list_of s_list T.z_list (by decide +kernel) (e_var 0)) l_nil) (ll_cons ll_nil)) (e_tup (a_cons e_int (a_cons e_int a_nil)) (CLen.le (cl_cons (cl_cons cl_nil)) (by decide))))))))
theorem ok_number_in (T : Txt K mg ec) (Df : DefF K mg "number_in" s_number_in ["word"])   : Cal P wo K mg base ec "number_in" ["word"] f_number_in 1 :=
  Df.cal fun F => fn_ok (k := 0) F sc_number_in c_number_in fun cdv A outer s H E hr tk hp => by
    have nd := sc_number_in.nd
    have hu := hr.units
    have hu1 := hu_of hr
    have hw := T.w
    exact (b_cons (s_if (t_bop (p_or (t_cmp (op_eqV hu) s_eq (e_var 0) e_str) (p_or (t_not (t_of (e_call1 (cr_all rfl) s_all T.z_all (by decide +kernel) (e_lc (own := [("sign", 1)]) nd (blkOk_by (own := [("sign", 1)]) (N := N_number_in) (sc := defScope s_number_in) (by decide +kernel)) (i_str (e_var 0)) (fun _ _ _ _ _ => (g_name 1 nd (by decide))) (fun _ _ _ _ _ => ts_nil) (fun _ _ _ _ _ => (e_cmp op_inS s_inSg (e_var 1) (e_globS T.k_FIGURES))))))) (p_or1 (t_bop (p_and (t_cmp (op_eqV hu) s_eq (e_ixR ixr_V s_ix (e_var 0) e_int) e_str) (p_and1 (t_cmp (op_neV hu) s_ne (e_var 0) e_str))))))))
 (b_one (s_raise T.x_NoText tk))
 b_nil)
 (b_one (s_ret (e_callT1 call_int_str s_intT T.z_int (by decide +kernel) (e_var 0)))))
theorem ok_signed_in (T : Txt K mg ec) (Df : DefF K mg "signed_in" s_signed_in ["word"])  (C_number_in : Cal P wo K mg base ec "number_in" ["word"] f_number_in 1) : Cal P wo K mg base ec "signed_in" ["word"] f_signed_in 2 :=
  Df.cal fun F => fn_ok (k := 1) F sc_signed_in c_signed_in fun cdv A outer s H E hr tk hp => by
    have nd := sc_signed_in.nd
    have hu := hr.units
    have hu1 := hu_of hr
    have hw := T.w
    exact (b_cons (s_if (t_cmp (op_neV hu) s_ne (e_slS (e_var 0) o_none (o_some e_int)) e_str)
 (b_one (s_ret (e_callP C_number_in (hr.mono (by decide)) tk (l_cons (e_var 0) l_nil) (ll_cons ll_nil))))
 b_nil)
 (b_cons (s_set 1 nd (e_callP C_number_in (hr.mono (by decide)) tk (l_cons (e_slS (e_var 0) (o_some e_int) o_none) l_nil) (ll_cons ll_nil)))
 (b_cons (s_if (t_cmp (op_eqV hu) s_eq (e_var 1) e_int)
 (b_one (s_raise T.x_NoText tk))
 b_nil)
 (b_one (s_ret (e_bin op_sub s_sub e_int (e_var 1)))))))
theorem ok_share_in (T : Txt K mg ec) (Df : DefF K mg "share_in" s_share_in ["word"])  (C_is_share : Cal P wo K mg base ec "is_share" ["thing"] f_is_share 2) (C_number_in : Cal P wo K mg base ec "number_in" ["word"] f_number_in 1) (C_signed_in : Cal P wo K mg base ec "signed_in" ["word"] f_signed_in 2) : Cal P wo K mg base ec "share_in" ["word"] f_share_in 3 :=
  Df.cal fun F => fn_ok (k := 2) F sc_share_in c_share_in fun cdv A outer s H E hr tk hp => by
    have nd := sc_share_in.nd
    have hu := hr.units
    have hu1 := hu_of hr
    have hw := T.w
    exact (b_cons (s_asg (own := [1, 2, 3]) (e_partT (e_var 0) e_str) (g_tup (gs_cons (g_name 1 nd (by decide)) (gs_cons (g_name 2 nd (by decide)) (gs_cons (g_name 3 nd (by decide)) gs_nil)))))
 (b_cons (s_if (t_cmp (op_eqV hu) s_eq (e_var 2) e_str)
 (b_one (s_ret (e_tup (a_cons (e_callP C_signed_in (hr.mono (by decide)) tk (l_cons (e_var 1) l_nil) (ll_cons ll_nil)) (a_cons e_int a_nil)) (CLen.le (cl_cons (cl_cons cl_nil)) (by decide)))))
 b_nil)
 (b_cons (s_set 4 nd (e_tup (a_cons (e_callP C_signed_in (hr.mono (by decide)) tk (l_cons (e_var 1) l_nil) (ll_cons ll_nil)) (a_cons (e_callP C_number_in (hr.mono (by decide)) tk (l_cons (e_var 3) l_nil) (ll_cons ll_nil)) a_nil)) (CLen.le (cl_cons (cl_cons cl_nil)) (by decide))))
 (b_cons (s_if (t_bop (p_or (t_cmp (OpR.or op_lt (op_ltV hu)) s_ord (e_ixR ixr_V s_ix (e_var 4) e_int) e_int) (p_or1 (t_not (t_of (e_callP C_is_share (hr.mono (by decide)) tk (l_cons (e_var 4) l_nil) (ll_cons ll_nil)))))))
 (b_one (s_raise T.x_NoText tk))
 b_nil)
 (b_one (s_ret (e_var 4)))))))
theorem ok_load_in (T : Txt K mg ec) (Df : DefF K mg "load_in" s_load_in ["text"])  (C_is_load : Cal P wo K mg base ec "is_load" ["thing"] f_is_load 2) (C_number_in : Cal P wo K mg base ec "number_in" ["word"] f_number_in 1) : Cal P wo K mg base ec "load_in" ["text"] f_load_in 3 :=
  Df.cal fun F => fn_ok (k := 2) F sc_load_in c_load_in fun cdv A outer s H E hr tk hp => by
    have nd := sc_load_in.nd
    have hu := hr.units
    have hu1 := hu_of hr
    have hw := T.w
    exact (b_cons (s_set 1 nd (e_callT1 call_tuple_of s_tuple T.z_tuple (by decide +kernel) (e_lc (own := [("word", 2)]) nd (blkOk_by (own := [("word", 2)]) (N := N_load_in) (sc := defScope s_load_in) (by decide +kernel)) (i_seq (e_split (e_var 0) e_str)) (fun _ _ _ _ _ => (g_name 2 nd (by decide))) (fun _ _ _ _ _ => ts_nil) (fun _ _ _ _ _ => (e_callP C_number_in (hr.mono (by decide)) takes0 (l_cons (e_var 2) l_nil) (ll_cons ll_nil))))))
 (b_cons (s_if (t_not (t_of (e_callP C_is_load (hr.mono (by decide)) tk (l_cons (e_var 1) l_nil) (ll_cons ll_nil))))
 (b_one (s_raise T.x_NoText tk))
 b_nil)
 (b_one (s_ret (e_var 1)))))
theorem ok_need_text (T : Txt K mg ec) (Df : DefF K mg "need_text" s_need_text ["thing"])   : Cal P wo K mg base ec "need_text" ["thing"] f_need_text 1 :=
  Df.cal fun F => fn_ok (k := 0) F sc_need_text c_need_text fun cdv A outer s H E hr tk hp => by
    have nd := sc_need_text.nd
    have hu := hr.units
    have hu1 := hu_of hr
    have hw := T.w
    exact (b_one (s_if (t_not (t_of (e_isi (T := "str") T.z_isinstance T.z_str PyProof.Rows.boot_str (by decide +kernel) (e_var 0))))
 (b_one (s_raise T.x_NoText tk))
 b_nil))
theorem ok_read_share (T : Txt K mg ec) (Df : DefF K mg "read_share" s_read_share ["text"])  (C_share_in : Cal P wo K mg base ec "share_in" ["word"] f_share_in 3) (C_need_text : Cal P wo K mg base ec "need_text" ["thing"] f_need_text 1) : Cal P wo K mg base ec "read_share" ["text"] f_read_share 4 :=
  Df.cal fun F => fn_ok (k := 3) F sc_read_share c_read_share fun cdv A outer s H E hr tk hp => by
    have nd := sc_read_share.nd
    have hu := hr.units
    have hu1 := hu_of hr
    have hw := T.w
    exact (b_cons (s_expr (e_callP C_need_text (hr.mono (by decide)) tk (l_cons (e_var 0) l_nil) (ll_cons ll_nil)))
 (b_one (s_ret (e_callP C_share_in (hr.mono (by decide)) tk (l_cons (e_var 0) l_nil) (ll_cons ll_nil)))))
theorem ok_read_load (T : Txt K mg ec) (Df : DefF K mg "read_load" s_read_load ["text"])  (C_load_in : Cal P wo K mg base ec "load_in" ["text"] f_load_in 3) (C_need_text : Cal P wo K mg base ec "need_text" ["thing"] f_need_text 1) : Cal P wo K mg base ec "read_load" ["text"] f_read_load 4 :=
  Df.cal fun F => fn_ok (k := 3) F sc_read_load c_read_load fun cdv A outer s H E hr tk hp => by
    have nd := sc_read_load.nd
    have hu := hr.units
    have hu1 := hu_of hr
    have hw := T.w
    exact (b_cons (s_expr (e_callP C_need_text (hr.mono (by decide)) tk (l_cons (e_var 0) l_nil) (ll_cons ll_nil)))
 (b_one (s_ret (e_callP C_load_in (hr.mono (by decide)) tk (l_cons (e_var 0) l_nil) (ll_cons ll_nil)))))
theorem ok_read_rule (T : Txt K mg ec) (Df : DefF K mg "read_rule" s_read_rule ["text"])  (C_is_rule : Cal P wo K mg base ec "is_rule" ["thing"] f_is_rule 5) (C_share_in : Cal P wo K mg base ec "share_in" ["word"] f_share_in 3) (C_need_text : Cal P wo K mg base ec "need_text" ["thing"] f_need_text 1) : Cal P wo K mg base ec "read_rule" ["text"] f_read_rule 6 :=
  Df.cal fun F => fn_ok (k := 5) F sc_read_rule c_read_rule fun cdv A outer s H E hr tk hp => by
    have nd := sc_read_rule.nd
    have hu := hr.units
    have hu1 := hu_of hr
    have hw := T.w
    exact (b_cons (s_expr (e_callP C_need_text (hr.mono (by decide)) tk (l_cons (e_var 0) l_nil) (ll_cons ll_nil)))
 (b_cons (s_set 1 nd (e_callT1 call_tuple_of s_tuple T.z_tuple (by decide +kernel) (e_lc (own := [("word", 2)]) nd (blkOk_by (own := [("word", 2)]) (N := N_read_rule) (sc := defScope s_read_rule) (by decide +kernel)) (i_seq (e_split (e_var 0) e_str)) (fun _ _ _ _ _ => (g_name 2 nd (by decide))) (fun _ _ _ _ _ => ts_nil) (fun _ _ _ _ _ => (e_callP C_share_in (hr.mono (by decide)) takes0 (l_cons (e_var 2) l_nil) (ll_cons ll_nil))))))
 (b_cons (s_if (t_not (t_of (e_callP C_is_rule (hr.mono (by decide)) tk (l_cons (e_var 1) l_nil) (ll_cons ll_nil))))
 (b_one (s_raise T.x_NoText tk))
 b_nil)
 (b_one (s_ret (e_var 1))))))
theorem ok__law_pen (T : Txt K mg ec) (Df : DefF K mg "_law_pen" s__law_pen ["_law_script"])   : Cal P wo K mg base ec "_law_pen" ["_law_script"] f__law_pen 1 :=
  Df.cal fun F => fn_ok (k := 0) F sc__law_pen c__law_pen fun cdv A outer s H E hr tk hp => by
    have nd := sc__law_pen.nd
    have hu := hr.units
    have hu1 := hu_of hr
    have hw := T.w
    exact (b_one (s_ret (e_lst (a_cons (e_callT1 call_list_of s_list T.z_list (by decide +kernel) (e_sl (e_var 0) o_none (o_some e_int))) (a_cons e_int (a_cons e_int a_nil))) (CLen.le (cl_cons (cl_cons (cl_cons cl_nil))) (by decide)))))
theorem ok__law_draw (T : Txt K mg ec) (Df : DefF K mg "_law_draw" s__law_draw ["_law_pen_here", "_law_many"])   : Cal P wo K mg base ec "_law_draw" ["_law_pen_here", "_law_many"] f__law_draw 1 :=
  Df.cal fun F => fn_ok (k := 0) F sc__law_draw c__law_draw fun cdv A outer s H E hr tk hp => by
    have nd := sc__law_draw.nd
    have hu := hr.units
    have hu1 := hu_of hr
    have hw := T.w
    exact (b_cons (s_if (t_cmp (OpR.or op_gt (op_gtV hu)) s_ord (e_ixR ixr_V s_ix (e_var 0) e_int) e_int)
 (b_cons (s_set 2 nd (e_bin op_modN s_mod (e_ixR ixr_V s_ix (e_var 0) e_int) (e_var 1)))
 (b_cons (s_putL (e_var 0) e_int (e_bin op_fdivV s_div (e_ixR ixr_V s_ix (e_var 0) e_int) (e_var 1)))
 (b_one (s_ret (e_var 2)))))
 b_nil)
 (b_cons (s_set 3 nd (e_ixR ixr_V s_ix (e_var 0) e_int))
 (b_cons (s_putL (e_var 0) e_int (e_bin or_add s_add (e_var 3) e_int))
 (b_cons (s_set 4 nd (e_bin or_add s_add (e_bin or_mul s_mulV e_int (e_var 3)) e_int))
 (b_cons (s_if (t_cmp (OpR.or op_gt (op_gtV hu)) s_ord (e_call1 call_lenV s_len T.z_len PySem.boot_len (e_ixR ixr_V s_ix (e_var 0) e_int)) e_int)
 (b_one (s_set 4 nd (e_ixR ixr_V s_ix (e_ixR ixr_V s_ix (e_var 0) e_int) (e_bin op_modN s_mod (e_var 3) (e_call1 call_lenV s_len T.z_len PySem.boot_len (e_ixR ixr_V s_ix (e_var 0) e_int))))))
 b_nil)
 (b_cons (s_if (t_bop (p_and (t_cmp (OpR.or op_lt (op_ltV hu)) s_ord (e_var 3) (e_call1 call_lenV s_len T.z_len PySem.boot_len (e_ixR ixr_V s_ix (e_var 0) e_int))) (p_and1 (t_cmp (OpR.or op_ge (op_geV hu)) s_ord (e_call1 call_abs s_abs T.z_abs PyProof.Rows.boot_abs (e_var 4)) (e_bin op_pow s_pow e_int e_int)))))
 (b_cons (s_putL (e_var 0) e_int (e_bin op_fdivV s_div (e_call1 call_abs s_abs T.z_abs PyProof.Rows.boot_abs (e_var 4)) (e_var 1)))
 (b_one (s_ret (e_bin op_modN s_mod (e_call1 call_abs s_abs T.z_abs PyProof.Rows.boot_abs (e_var 4)) (e_var 1)))))
 b_nil)
 (b_cons (s_set 5 nd (e_bin op_modN s_mod (e_bin or_mul s_mulV (e_bin or_add s_add (e_bin or_add s_add (e_bin op_modN s_mod (e_var 4) e_int) (e_bin or_mul s_mulV e_int (e_var 3))) e_int) e_int) e_int))
 (b_cons (s_set 5 nd (e_bin op_modN s_mod (e_bin or_add s_add (e_bin or_add s_add (e_bin or_mul s_mulV (e_bin or_mul s_mulV (e_var 5) (e_var 5)) (e_var 5)) (e_bin or_mul s_mulV e_int (e_var 5))) (e_var 3)) e_int))
 (b_one (s_ret (e_bin op_modN s_mod (e_bin op_fdivV s_div (e_bin op_modN s_mod (e_bin or_mul s_mulV (e_var 5) (e_bin or_add s_add (e_bin op_modN s_mod (e_var 5) e_int) e_int)) e_int) e_int) (e_var 1))))))))))))
theorem ok__law_measure (T : Txt K mg ec) (Df : DefF K mg "_law_measure" s__law_measure ["_law_a", "_law_b"])   : Cal P wo K mg base ec "_law_measure" ["_law_a", "_law_b"] f__law_measure 1 :=
  Df.cal fun F => fn_ok (k := 0) F sc__law_measure c__law_measure fun cdv A outer s H E hr tk hp => by
    have nd := sc__law_measure.nd
    have hu := hr.units
    have hu1 := hu_of hr
    have hw := T.w
    exact (b_cons (s_while (fun _ => 1000000) hp (t_cmp (op_neV hu) s_ne (e_var 1) e_int)
 (b_one (s_par 0 1 nd (e_var 1) (e_bin op_modN s_mod (e_var 0) (e_var 1)) (by decide))))
 (b_one (s_ret (e_call1 call_abs s_abs T.z_abs PyProof.Rows.boot_abs (e_var 0)))))
theorem ok__law_lowest (T : Txt K mg ec) (Df : DefF K mg "_law_lowest" s__law_lowest ["_law_top", "_law_bottom"])  (C__law_measure : Cal P wo K mg base ec "_law_measure" ["_law_a", "_law_b"] f__law_measure 1) : Cal P wo K mg base ec "_law_lowest" ["_law_top", "_law_bottom"] f__law_lowest 2 :=
  Df.cal fun F => fn_ok (k := 1) F sc__law_lowest c__law_lowest fun cdv A outer s H E hr tk hp => by
    have nd := sc__law_lowest.nd
    have hu := hr.units
    have hu1 := hu_of hr
    have hw := T.w
    exact (b_cons (s_set 2 nd (e_callP C__law_measure (hr.mono (by decide)) tk (l_cons (e_var 0) (l_cons (e_var 1) l_nil)) (ll_cons (ll_cons ll_nil))))
 (b_one (s_ret (e_tup (a_cons (e_bin op_fdivV s_div (e_var 0) (e_var 2)) (a_cons (e_bin op_fdivV s_div (e_var 1) (e_var 2)) a_nil)) (CLen.le (cl_cons (cl_cons cl_nil)) (by decide))))))
theorem ok__law_power (T : Txt K mg ec) (Df : DefF K mg "_law_power" s__law_power ["_law_number", "_law_many"])   : Cal P wo K mg base ec "_law_power" ["_law_number", "_law_many"] f__law_power 1 :=
  Df.cal fun F => fn_ok (k := 0) F sc__law_power c__law_power fun cdv A outer s H E hr tk hp => by
    have nd := sc__law_power.nd
    have hu := hr.units
    have hu1 := hu_of hr
    have hw := T.w
    exact (b_cons (s_set 2 nd e_int)
 (b_cons (s_for (own := [3]) hp (i_range1 (e_var 1) T.z_range) (g_name 3 nd (by decide))
 (b_one (s_set 2 nd (e_bin or_mul s_mulV (e_var 2) (e_var 0)))))
 (b_one (s_ret (e_var 2)))))
theorem ok__law_rule (T : Txt K mg ec) (Df : DefF K mg "_law_rule" s__law_rule ["_law_pen_here", "_law_n"])  (C__law_draw : Cal P wo K mg base ec "_law_draw" ["_law_pen_here", "_law_many"] f__law_draw 1) (C__law_lowest : Cal P wo K mg base ec "_law_lowest" ["_law_top", "_law_bottom"] f__law_lowest 2) (C__law_power : Cal P wo K mg base ec "_law_power" ["_law_number", "_law_many"] f__law_power 1) : Cal P wo K mg base ec "_law_rule" ["_law_pen_here", "_law_n"] f__law_rule 3 :=
  Df.cal fun F => fn_ok (k := 2) F sc__law_rule c__law_rule fun cdv A outer s H E hr tk hp => by
    have nd := sc__law_rule.nd
    have hu := hr.units
    have hu1 := hu_of hr
    have hw := T.w
    exact (b_cons (s_set 2 nd (e_callC C__law_draw (hr.mono (by decide)) tk (l_cons (e_var 0) (l_cons e_int l_nil)) (ll_cons (ll_cons ll_nil))))
 (b_cons (s_if (t_cmp (op_eqV hu) s_eq (e_var 2) e_int)
 (b_cons (s_set 3 nd (e_callC C__law_draw (hr.mono (by decide)) tk (l_cons (e_var 0) (l_cons (e_var 1) l_nil)) (ll_cons (ll_cons ll_nil))))
 (b_one (s_ret (e_callT1 call_tuple_of s_tuple T.z_tuple (by decide +kernel) (e_lc (own := [("_law_k", 9)]) nd (blkOk_by (own := [("_law_k", 9)]) (N := N__law_rule) (sc := defScope s__law_rule) (by decide +kernel)) (i_range1 (e_var 1) T.z_range) (fun _ _ _ _ _ => (g_name 9 nd (by decide))) (fun _ _ _ _ _ => ts_nil) (fun _ _ _ _ _ => (e_tup (a_cons (e_callT1 call_int1 s_int T.z_int (by decide +kernel) (e_cmp (op_eqV hu) s_eq (e_var 9) (e_var 3))) (a_cons e_int a_nil)) (CLen.le (cl_cons (cl_cons cl_nil)) (by decide)))))))))
 b_nil)
 (b_cons (s_if (t_cmp (op_eqV hu) s_eq (e_var 2) e_int)
 (b_cons (s_set 4 nd (e_bin or_add s_add e_int (e_callC C__law_draw (hr.mono (by decide)) tk (l_cons (e_var 0) (l_cons (e_bin op_sub s_sub e_int (e_callT1 call_int1 s_int T.z_int (by decide +kernel) (e_cmp (OpR.or op_gt (op_gtV hu)) s_ord (e_var 1) e_int))) l_nil)) (ll_cons (ll_cons ll_nil)))))
 (b_cons (s_set 5 nd (e_bin or_add s_add (e_lst (a_cons e_int a_nil) (CLen.le (cl_cons cl_nil) (by decide))) (e_lc (own := [("_law_k", 9)]) nd (blkOk_by (own := [("_law_k", 9)]) (N := N__law_rule) (sc := defScope s__law_rule) (by decide +kernel)) (i_range1 (e_var 1) T.z_range) (fun _ _ _ _ _ => (g_name 9 nd (by decide))) (fun _ _ _ _ _ => ts_nil) (fun _ _ _ _ _ => (e_callP C__law_power (hr.mono (by decide)) takes0 (l_cons (e_bin or_add s_add (e_var 9) e_int) (l_cons (e_var 4) l_nil)) (ll_cons (ll_cons ll_nil)))))))
 (b_one (s_ret (e_callT1 call_tuple_of s_tuple T.z_tuple (by decide +kernel) (e_lc (own := [("_law_k", 9)]) nd (blkOk_by (own := [("_law_k", 9)]) (N := N__law_rule) (sc := defScope s__law_rule) (by decide +kernel)) (i_range1 (e_var 1) T.z_range) (fun _ _ _ _ _ => (g_name 9 nd (by decide))) (fun _ _ _ _ _ => ts_nil) (fun _ _ _ _ _ => (e_callP C__law_lowest (hr.mono (by decide)) takes0 (l_cons (e_bin op_sub s_sub (e_ixR ixr_V s_ix (e_var 5) (e_bin or_add s_add (e_var 9) e_int)) (e_ixR ixr_V s_ix (e_var 5) (e_var 9))) (l_cons (e_callP C__law_power (hr.mono (by decide)) takes0 (l_cons (e_var 1) (l_cons (e_var 4) l_nil)) (ll_cons (ll_cons ll_nil))) l_nil)) (ll_cons (ll_cons ll_nil))))))))))
 b_nil)
 (b_cons (s_if (t_cmp (op_eqV hu) s_eq (e_var 2) e_int)
 (b_cons (s_set 6 nd (e_bin or_add s_add e_int (e_callC C__law_draw (hr.mono (by decide)) tk (l_cons (e_var 0) (l_cons e_int l_nil)) (ll_cons (ll_cons ll_nil)))))
 (b_cons (s_set 7 nd (e_call1 cr_sortedI s_sorted T.z_sorted (by decide +kernel) (e_bin or_add s_add (e_lst (a_cons e_int (a_cons (e_var 6) a_nil)) (CLen.le (cl_cons (cl_cons cl_nil)) (by decide))) (e_lc (own := [("_law_k", 9)]) nd (blkOk_by (own := [("_law_k", 9)]) (N := N__law_rule) (sc := defScope s__law_rule) (by decide +kernel)) (i_range1 (e_bin op_sub s_sub (e_var 1) e_int) T.z_range) (fun _ _ _ _ _ => (g_name 9 nd (by decide))) (fun _ _ _ _ _ => ts_nil) (fun _ _ _ _ _ => (e_callC C__law_draw (hr.mono (by decide)) takes0 (l_cons (e_var 0) (l_cons (e_bin or_add s_add (e_var 6) e_int) l_nil)) (ll_cons (ll_cons ll_nil))))))))
 (b_one (s_ret (e_callT1 call_tuple_of s_tuple T.z_tuple (by decide +kernel) (e_lc (own := [("_law_k", 9)]) nd (blkOk_by (own := [("_law_k", 9)]) (N := N__law_rule) (sc := defScope s__law_rule) (by decide +kernel)) (i_range1 (e_var 1) T.z_range) (fun _ _ _ _ _ => (g_name 9 nd (by decide))) (fun _ _ _ _ _ => ts_nil) (fun _ _ _ _ _ => (e_callP C__law_lowest (hr.mono (by decide)) takes0 (l_cons (e_bin op_sub s_sub (e_ixR ixr_V s_ix (e_var 7) (e_bin or_add s_add (e_var 9) e_int)) (e_ixR ixr_V s_ix (e_var 7) (e_var 9))) (l_cons (e_var 6) l_nil)) (ll_cons (ll_cons ll_nil))))))))))
 b_nil)
 (b_cons (s_setM 8 nd (e_lc (own := [("_law_k", 9)]) nd (blkOk_by (own := [("_law_k", 9)]) (N := N__law_rule) (sc := defScope s__law_rule) (by decide +kernel)) (i_range1 (e_var 1) T.z_range) (fun _ _ _ _ _ => (g_name 9 nd (by decide))) (fun _ _ _ _ _ => ts_nil) (fun _ _ _ _ _ => (e_callC C__law_draw (hr.mono (by decide)) takes0 (l_cons (e_var 0) (l_cons (e_ixR ixr_V s_ix (e_lst (a_cons e_int (a_cons e_int (a_cons e_int a_nil))) (CLen.le (cl_cons (cl_cons (cl_cons cl_nil))) (by decide))) (e_bin op_sub s_sub (e_var 2) e_int)) l_nil)) (ll_cons (ll_cons ll_nil))))))
 (b_cons (s_augL (e_var 8) (e_callC C__law_draw (hr.mono (by decide)) tk (l_cons (e_var 0) (l_cons (e_var 1) l_nil)) (ll_cons (ll_cons ll_nil))) e_int)
 (b_one (s_ret (e_callT1 call_tuple_of s_tuple T.z_tuple (by decide +kernel) (e_lc (own := [("_law_weight", 10)]) nd (blkOk_by (own := [("_law_weight", 10)]) (N := N__law_rule) (sc := defScope s__law_rule) (by decide +kernel)) (i_seq (e_fz 8)) (fun _ _ _ _ _ => (g_name 10 nd (by decide))) (fun _ _ _ _ _ => ts_nil) (fun _ _ _ _ _ => (e_callP C__law_lowest (hr.mono (by decide)) takes0 (l_cons (e_var 10) (l_cons (e_call1 (call_sumV rfl) s_sum T.z_sum (by decide +kernel) (e_var 8)) l_nil)) (ll_cons (ll_cons ll_nil))))))))))))))
theorem ok__law_load (T : Txt K mg ec) (Df : DefF K mg "_law_load" s__law_load ["_law_pen_here", "_law_n", "_law_balls"])  (C__law_draw : Cal P wo K mg base ec "_law_draw" ["_law_pen_here", "_law_many"] f__law_draw 1) : Cal P wo K mg base ec "_law_load" ["_law_pen_here", "_law_n", "_law_balls"] f__law_load 2 :=
  Df.cal fun F => fn_ok (k := 1) F sc__law_load c__law_load fun cdv A outer s H E hr tk hp => by
    have nd := sc__law_load.nd
    have hu := hr.units
    have hu1 := hu_of hr
    have hw := T.w
    exact (b_cons (s_set 3 nd (e_callC C__law_draw (hr.mono (by decide)) tk (l_cons (e_var 0) (l_cons e_int l_nil)) (ll_cons (ll_cons ll_nil))))
 (b_cons (s_if (t_cmp (op_eqV hu) s_eq (e_var 3) e_int)
 (b_one (s_ret (e_callT1 call_tuple_of s_tuple T.z_tuple (by decide +kernel) (e_lc (own := [("_law_k", 6)]) nd (blkOk_by (own := [("_law_k", 6)]) (N := N__law_load) (sc := defScope s__law_load) (by decide +kernel)) (i_range1 (e_var 1) T.z_range) (fun _ _ _ _ _ => (g_name 6 nd (by decide))) (fun _ _ _ _ _ => ts_nil) (fun _ _ _ _ _ => (e_bin or_add s_add (e_bin op_fdivV s_div (e_var 2) (e_var 1)) (e_callT1 call_int1 s_int T.z_int (by decide +kernel) (e_cmp (OpR.or op_lt (op_ltV hu)) s_ord (e_var 6) (e_bin op_modN s_mod (e_var 2) (e_var 1))))))))))
 b_nil)
 (b_cons (s_set 4 nd (e_call1 cr_sortedI s_sorted T.z_sorted (by decide +kernel) (e_bin or_add s_add (e_lst (a_cons e_int (a_cons (e_var 2) a_nil)) (CLen.le (cl_cons (cl_cons cl_nil)) (by decide))) (e_lc (own := [("_law_k", 6)]) nd (blkOk_by (own := [("_law_k", 6)]) (N := N__law_load) (sc := defScope s__law_load) (by decide +kernel)) (i_range1 (e_bin op_sub s_sub (e_var 1) e_int) T.z_range) (fun _ _ _ _ _ => (g_name 6 nd (by decide))) (fun _ _ _ _ _ => ts_nil) (fun _ _ _ _ _ => (e_callC C__law_draw (hr.mono (by decide)) takes0 (l_cons (e_var 0) (l_cons (e_bin or_add s_add (e_var 2) e_int) l_nil)) (ll_cons (ll_cons ll_nil))))))))
 (b_cons (s_if (t_cmp (op_eqV hu) s_eq (e_var 3) e_int)
 (b_cons (s_set 5 nd (e_call2 (call_min2 rfl) s_min2 T.z_min (by decide +kernel) (e_var 2) e_int))
 (b_one (s_set 4 nd (e_call1 cr_sortedI s_sorted T.z_sorted (by decide +kernel) (e_bin or_add s_add (e_lst (a_cons e_int (a_cons (e_var 2) a_nil)) (CLen.le (cl_cons (cl_cons cl_nil)) (by decide))) (e_lc (own := [("_law_k", 6)]) nd (blkOk_by (own := [("_law_k", 6)]) (N := N__law_load) (sc := defScope s__law_load) (by decide +kernel)) (i_range1 (e_bin op_sub s_sub (e_var 1) e_int) T.z_range) (fun _ _ _ _ _ => (g_name 6 nd (by decide))) (fun _ _ _ _ _ => ts_nil) (fun _ _ _ _ _ => (e_bin op_sub s_sub (e_var 2) (e_callC C__law_draw (hr.mono (by decide)) takes0 (l_cons (e_var 0) (l_cons (e_bin or_add s_add (e_var 5) e_int) l_nil)) (ll_cons (ll_cons ll_nil)))))))))))
 b_nil)
 (b_one (s_ret (e_callT1 call_tuple_of s_tuple T.z_tuple (by decide +kernel) (e_revA (e_call1 cr_sortedI s_sorted T.z_sorted (by decide +kernel) (e_lc (own := [("_law_k", 6)]) nd (blkOk_by (own := [("_law_k", 6)]) (N := N__law_load) (sc := defScope s__law_load) (by decide +kernel)) (i_range1 (e_var 1) T.z_range) (fun _ _ _ _ _ => (g_name 6 nd (by decide))) (fun _ _ _ _ _ => ts_nil) (fun _ _ _ _ _ => (e_bin op_sub s_sub (e_ixR ixr_V s_ix (e_var 4) (e_bin or_add s_add (e_var 6) e_int)) (e_ixR ixr_V s_ix (e_var 4) (e_var 6))))))))))))))
theorem ok__law_figures (T : Txt K mg ec) (Df : DefF K mg "_law_figures" s__law_figures ["_law_number"])   : Cal P wo K mg base ec "_law_figures" ["_law_number"] f__law_figures 1 :=
  Df.cal fun F => fn_ok (k := 0) F sc__law_figures c__law_figures fun cdv A outer s H E hr tk hp => by
    have nd := sc__law_figures.nd
    have hu := hr.units
    have hu1 := hu_of hr
    have hw := T.w
    exact (b_cons (s_set 1 nd (e_call1 call_abs s_abs T.z_abs PyProof.Rows.boot_abs (e_var 0)))
 (b_cons (s_set 2 nd (e_ixR ixr_V s_ix e_str (e_bin op_modN s_mod (e_var 1) e_int)))
 (b_cons (s_while (fun _ => 1000000) hp (t_cmp (OpR.or op_gt (op_gtV hu)) s_ord (e_var 1) e_int)
 (b_cons (s_set 1 nd (e_bin op_fdivV s_div (e_var 1) e_int))
 (b_one (s_set 2 nd (e_bin or_add s_add (e_ixR ixr_V s_ix e_str (e_bin op_modN s_mod (e_var 1) e_int)) (e_var 2))))))
 (b_one (s_ret (e_bin or_add s_add (e_bin op_mulT s_mulT e_str (e_callT1 call_int1 s_int T.z_int (by decide +kernel) (e_cmp (OpR.or op_lt (op_ltV hu)) s_ord (e_var 0) e_int))) (e_var 2)))))))
theorem ok__law_share_text (T : Txt K mg ec) (Df : DefF K mg "_law_share_text" s__law_share_text ["_law_part_here"])  (C__law_figures : Cal P wo K mg base ec "_law_figures" ["_law_number"] f__law_figures 1) : Cal P wo K mg base ec "_law_share_text" ["_law_part_here"] f__law_share_text 2 :=
  Df.cal fun F => fn_ok (k := 1) F sc__law_share_text c__law_share_text fun cdv A outer s H E hr tk hp => by
    have nd := sc__law_share_text.nd
    have hu := hr.units
    have hu1 := hu_of hr
    have hw := T.w
    exact (b_cons (s_if (t_cmp (op_eqV hu) s_eq (e_ixR ixr_V s_ix (e_var 0) e_int) e_int)
 (b_one (s_ret (e_callP C__law_figures (hr.mono (by decide)) tk (l_cons (e_ixR ixr_V s_ix (e_var 0) e_int) l_nil) (ll_cons ll_nil))))
 b_nil)
 (b_one (s_ret (e_bin or_add s_add (e_bin or_add s_add (e_callP C__law_figures (hr.mono (by decide)) tk (l_cons (e_ixR ixr_V s_ix (e_var 0) e_int) l_nil) (ll_cons ll_nil)) e_str) (e_callP C__law_figures (hr.mono (by decide)) tk (l_cons (e_ixR ixr_V s_ix (e_var 0) e_int) l_nil) (ll_cons ll_nil))))))
theorem ok__law_load_text (T : Txt K mg ec) (Df : DefF K mg "_law_load_text" s__law_load_text ["_law_load_here"])  (C__law_figures : Cal P wo K mg base ec "_law_figures" ["_law_number"] f__law_figures 1) : Cal P wo K mg base ec "_law_load_text" ["_law_load_here"] f__law_load_text 2 :=
  Df.cal fun F => fn_ok (k := 1) F sc__law_load_text c__law_load_text fun cdv A outer s H E hr tk hp => by
    have nd := sc__law_load_text.nd
    have hu := hr.units
    have hu1 := hu_of hr
    have hw := T.w
    exact (b_one (s_ret (e_join e_str (e_lc (own := [("_law_number", 1)]) nd (blkOk_by (own := [("_law_number", 1)]) (N := N__law_load_text) (sc := defScope s__law_load_text) (by decide +kernel)) (i_seq (e_var 0)) (fun _ _ _ _ _ => (g_name 1 nd (by decide))) (fun _ _ _ _ _ => ts_nil) (fun _ _ _ _ _ => (e_callP C__law_figures (hr.mono (by decide)) takes0 (l_cons (e_var 1) l_nil) (ll_cons ll_nil)))))))
theorem ok__law_rule_text (T : Txt K mg ec) (Df : DefF K mg "_law_rule_text" s__law_rule_text ["_law_rule_here"])  (C__law_share_text : Cal P wo K mg base ec "_law_share_text" ["_law_part_here"] f__law_share_text 2) : Cal P wo K mg base ec "_law_rule_text" ["_law_rule_here"] f__law_rule_text 3 :=
  Df.cal fun F => fn_ok (k := 2) F sc__law_rule_text c__law_rule_text fun cdv A outer s H E hr tk hp => by
    have nd := sc__law_rule_text.nd
    have hu := hr.units
    have hu1 := hu_of hr
    have hw := T.w
    exact (b_one (s_ret (e_join e_str (e_lc (own := [("_law_part_here", 1)]) nd (blkOk_by (own := [("_law_part_here", 1)]) (N := N__law_rule_text) (sc := defScope s__law_rule_text) (by decide +kernel)) (i_seq (e_var 0)) (fun _ _ _ _ _ => (g_name 1 nd (by decide))) (fun _ _ _ _ _ => ts_nil) (fun _ _ _ _ _ => (e_callP C__law_share_text (hr.mono (by decide)) takes0 (l_cons (e_var 1) l_nil) (ll_cons ll_nil)))))))
theorem ok__law_part (T : Txt K mg ec) (Df : DefF K mg "_law_part" s__law_part ["_law_pen_here"])  (C__law_draw : Cal P wo K mg base ec "_law_draw" ["_law_pen_here", "_law_many"] f__law_draw 1) (C__law_lowest : Cal P wo K mg base ec "_law_lowest" ["_law_top", "_law_bottom"] f__law_lowest 2) : Cal P wo K mg base ec "_law_part" ["_law_pen_here"] f__law_part 3 :=
  Df.cal fun F => fn_ok (k := 2) F sc__law_part c__law_part fun cdv A outer s H E hr tk hp => by
    have nd := sc__law_part.nd
    have hu := hr.units
    have hu1 := hu_of hr
    have hw := T.w
    exact (b_cons (s_set 1 nd (e_callC C__law_draw (hr.mono (by decide)) tk (l_cons (e_var 0) (l_cons e_int l_nil)) (ll_cons (ll_cons ll_nil))))
 (b_cons (s_set 2 nd (e_ixR ixr_V s_ix (e_lst (a_cons e_int (a_cons e_int (a_cons (e_bin op_pow s_pow e_int e_int) (a_cons (e_bin op_pow s_pow e_int e_int) (a_cons (e_bin op_pow s_pow e_int e_int) a_nil))))) (CLen.le (cl_cons (cl_cons (cl_cons (cl_cons (cl_cons cl_nil))))) (by decide))) (e_var 1)))
 (b_cons (s_set 3 nd (e_bin op_modN s_mod (e_bin or_add s_add (e_bin or_mul s_mulV (e_callC C__law_draw (hr.mono (by decide)) tk (l_cons (e_var 0) (l_cons (e_bin op_pow s_pow e_int e_int) l_nil)) (ll_cons (ll_cons ll_nil))) (e_bin op_pow s_pow e_int e_int)) (e_callC C__law_draw (hr.mono (by decide)) tk (l_cons (e_var 0) (l_cons (e_bin op_pow s_pow e_int e_int) l_nil)) (ll_cons (ll_cons ll_nil)))) (e_var 2)))
 (b_cons (s_set 4 nd (e_bin op_modN s_mod (e_bin or_add s_add (e_bin or_mul s_mulV (e_callC C__law_draw (hr.mono (by decide)) tk (l_cons (e_var 0) (l_cons (e_bin op_pow s_pow e_int e_int) l_nil)) (ll_cons (ll_cons ll_nil))) (e_bin op_pow s_pow e_int e_int)) (e_callC C__law_draw (hr.mono (by decide)) tk (l_cons (e_var 0) (l_cons (e_bin op_pow s_pow e_int e_int) l_nil)) (ll_cons (ll_cons ll_nil)))) (e_bin op_sub s_sub (e_var 2) e_int)))
 (b_cons (s_set 5 nd (e_bin or_add s_add e_int (e_bin or_mul s_mulV (e_var 4) (e_callT1 call_int1 s_int T.z_int (by decide +kernel) (e_cmp (OpR.or op_gt (op_gtV hu)) s_ord (e_callC C__law_draw (hr.mono (by decide)) tk (l_cons (e_var 0) (l_cons e_int l_nil)) (ll_cons (ll_cons ll_nil))) e_int)))))
 (b_one (s_ret (e_callP C__law_lowest (hr.mono (by decide)) tk (l_cons (e_bin or_mul s_mulV (e_var 3) (e_bin op_sub s_sub e_int (e_bin or_mul s_mulV e_int (e_callC C__law_draw (hr.mono (by decide)) tk (l_cons (e_var 0) (l_cons e_int l_nil)) (ll_cons (ll_cons ll_nil)))))) (l_cons (e_var 5) l_nil)) (ll_cons (ll_cons ll_nil))))))))))
theorem ok2__law_right {fa1 fa2 : Addr} (T : Txt K mg (ec.fn2 fa1 fa2)) (Df : DefF K mg "_law_right" s__law_right ["_law_shower", "_law_reader", "_law_thing", "_law_text"]) {y1 : Str} {psY1 : List Str} {ask1 : Fn} {kk1 : Nat} (C_ask1 : Cal P wo K mg base ec y1 psY1 ask1 kk1) (hfa1 : mg y1 = some (.ref fa1)) (hps1 : psY1.length = 1) (hk1 : kk1 ≤ 6) {y2 : Str} {psY2 : List Str} {ask2 : Fn} {kk2 : Nat} (C_ask2 : Cal P wo K mg base ec y2 psY2 ask2 kk2) (hfa2 : mg y2 = some (.ref fa2)) (hps2 : psY2.length = 1) (hk2 : kk2 ≤ 6) : Cal P wo K mg base (ec.fn2 fa1 fa2) "_law_right" ["_law_shower", "_law_reader", "_law_thing", "_law_text"] (f2__law_right ask1 ask2) 7 :=
  Df.cal fun F => fn_ok (k := 6) F sc__law_right (c2__law_right ask1 ask2) fun cdv A outer s H E hr tk hp => by
    have nd := sc__law_right.nd
    have hu := hr.units
    have hu1 := hu_of hr
    have hw : Bas ec.w := T.w
    exact (b_cons (s_set 4 nd (e_ask21 (i := 0) C_ask1 hfa1 (hr.mono hk1) tk (l_cons (e_var 2) l_nil) (by rw [hps1]; exact (ll_cons ll_nil))))
 (b_cons (s_if (t_bop (p_or (t_not (t_of (e_isi (T := "str") T.z_isinstance T.z_str PyProof.Rows.boot_str (by decide +kernel) (e_var 4)))) (p_or1 (t_cmp (op_neV hu) s_ne (e_var 4) (e_var 3)))))
 (b_one (s_ret e_bool))
 b_nil)
 (b_one (s_ret (e_or (e_isNf 1) (e_one (e_cmp (op_eqV hu) s_eq (e_call1 (call_reprV hr) s_repr T.z_repr (by decide +kernel) (e_ask22 (i := 1) C_ask2 hfa2 (hr.mono hk2) tk (l_cons (e_var 3) l_nil) (by rw [hps2]; exact (ll_cons ll_nil)))) (e_call1 (call_reprV hr) s_repr T.z_repr (by decide +kernel) (e_var 2)))))))))
theorem ok1__law_right {fa : Addr} (T : Txt K mg (ec.fn fa)) (Df : DefF K mg "_law_right" s__law_right ["_law_shower", "_law_reader", "_law_thing", "_law_text"]) {y : Str} {psY : List Str} {ask : Fn} {kk : Nat} (C_ask : Cal P wo K mg base ec y psY ask kk) (hfa : mg y = some (.ref fa)) (hps : psY.length = 1) (hk : kk ≤ 6) : Cal P wo K mg base (ec.fn fa) "_law_right" ["_law_shower", "_law_reader", "_law_thing", "_law_text"] (f1__law_right ask) 7 :=
  Df.cal fun F => fn_ok (k := 6) F sc__law_right (c1__law_right ask) fun cdv A outer s H E hr tk hp => by
    have nd := sc__law_right.nd
    have hu := hr.units
    have hu1 := hu_of hr
    have hw : Bas ec.w := T.w
    exact (b_cons (s_set 4 nd (e_ask (i := 0) C_ask hfa (hr.mono hk) tk (l_cons (e_var 2) l_nil) (by rw [hps]; exact (ll_cons ll_nil))))
 (b_cons (s_if (t_bop (p_or (t_not (t_of (e_isi (T := "str") T.z_isinstance T.z_str PyProof.Rows.boot_str (by decide +kernel) (e_var 4)))) (p_or1 (t_cmp (op_neV hu) s_ne (e_var 4) (e_var 3)))))
 (b_one (s_ret e_bool))
 b_nil)
 (b_one (s_ret (e_or (e_isNf 1) (e_one (e_cmp (op_eqV hu) s_eq (e_call1 (call_reprV hr) s_repr T.z_repr (by decide +kernel) e_no) (e_call1 (call_reprV hr) s_repr T.z_repr (by decide +kernel) (e_var 2)))))))))
theorem ok_law (T : Txt K mg ec) (Df : DefF K mg "law" s_law ["_law_script"])  (C_show_share : Cal P wo K mg base ec "show_share" ["a"] f_show_share 1) (C_show_load : Cal P wo K mg base ec "show_load" ["load"] f_show_load 1) (C_show_rule : Cal P wo K mg base ec "show_rule" ["rule"] f_show_rule 2) (C_times : Cal P wo K mg base ec "times" ["a", "b"] f_times 3) (C_read_share : Cal P wo K mg base ec "read_share" ["text"] f_read_share 4) (C_read_load : Cal P wo K mg base ec "read_load" ["text"] f_read_load 4) (C_read_rule : Cal P wo K mg base ec "read_rule" ["text"] f_read_rule 6) (C__law_pen : Cal P wo K mg base ec "_law_pen" ["_law_script"] f__law_pen 1) (C__law_draw : Cal P wo K mg base ec "_law_draw" ["_law_pen_here", "_law_many"] f__law_draw 1) (C__law_rule : Cal P wo K mg base ec "_law_rule" ["_law_pen_here", "_law_n"] f__law_rule 3) (C__law_load : Cal P wo K mg base ec "_law_load" ["_law_pen_here", "_law_n", "_law_balls"] f__law_load 2) (C__law_share_text : Cal P wo K mg base ec "_law_share_text" ["_law_part_here"] f__law_share_text 2) (C__law_load_text : Cal P wo K mg base ec "_law_load_text" ["_law_load_here"] f__law_load_text 2) (C__law_rule_text : Cal P wo K mg base ec "_law_rule_text" ["_law_rule_here"] f__law_rule_text 3) (C__law_part : Cal P wo K mg base ec "_law_part" ["_law_pen_here"] f__law_part 3) {fa_read_load : Addr} (M_read_load : mg "read_load" = some (.ref fa_read_load)) {fa_read_rule : Addr} (M_read_rule : mg "read_rule" = some (.ref fa_read_rule)) {fa_read_share : Addr} (M_read_share : mg "read_share" = some (.ref fa_read_share)) {fa_show_load : Addr} (M_show_load : mg "show_load" = some (.ref fa_show_load)) {fa_show_rule : Addr} (M_show_rule : mg "show_rule" = some (.ref fa_show_rule)) {fa_show_share : Addr} (M_show_share : mg "show_share" = some (.ref fa_show_share)) (C__law_right__show_load__read_load : Cal P wo K mg base (ec.fn2 fa_show_load fa_read_load) "_law_right" ["_law_shower", "_law_reader", "_law_thing", "_law_text"] (f2__law_right f_show_load f_read_load) 7) (C__law_right__show_load : Cal P wo K mg base (ec.fn fa_show_load) "_law_right" ["_law_shower", "_law_reader", "_law_thing", "_law_text"] (f1__law_right f_show_load) 7) (C__law_right__show_rule__read_rule : Cal P wo K mg base (ec.fn2 fa_show_rule fa_read_rule) "_law_right" ["_law_shower", "_law_reader", "_law_thing", "_law_text"] (f2__law_right f_show_rule f_read_rule) 7) (C__law_right__show_share__read_share : Cal P wo K mg base (ec.fn2 fa_show_share fa_read_share) "_law_right" ["_law_shower", "_law_reader", "_law_thing", "_law_text"] (f2__law_right f_show_share f_read_share) 7) : Cal P wo K mg base ec "law" ["_law_script"] f_law 8 :=
  Df.cal fun F => fn_ok (k := 7) F sc_law c_law fun cdv A outer s H E hr tk hp => by
    have nd := sc_law.nd
    have hu := hr.units
    have hu1 := hu_of hr
    have hw := T.w
    exact (b_cons (s_setM 1 nd (e_callP C__law_pen (hr.mono (by decide)) tk (l_cons (e_var 0) l_nil) (ll_cons ll_nil)))
 (b_cons (s_for (own := [2]) hp (i_range1 e_int T.z_range) (g_name 2 nd (by decide))
 (b_cons (s_set 3 nd (e_bin or_add s_add e_int (e_callC C__law_draw (hr.mono (by decide)) tk (l_cons (e_var 1) (l_cons e_int l_nil)) (ll_cons (ll_cons ll_nil)))))
 (b_cons (s_set 4 nd (e_callC C__law_part (hr.mono (by decide)) tk (l_cons (e_var 1) l_nil) (ll_cons ll_nil)))
 (b_cons (s_set 5 nd (e_callP C_times (hr.mono (by decide)) tk (l_cons (e_callP C_times (hr.mono (by decide)) tk (l_cons (e_var 4) (l_cons (e_callC C__law_part (hr.mono (by decide)) tk (l_cons (e_var 1) l_nil) (ll_cons ll_nil)) l_nil)) (ll_cons (ll_cons ll_nil))) (l_cons (e_callC C__law_part (hr.mono (by decide)) tk (l_cons (e_var 1) l_nil) (ll_cons ll_nil)) l_nil)) (ll_cons (ll_cons ll_nil))))
 (b_cons (s_set 6 nd (e_callC C__law_load (hr.mono (by decide)) tk (l_cons (e_var 1) (l_cons (e_var 3) (l_cons (e_callC C__law_draw (hr.mono (by decide)) tk (l_cons (e_var 1) (l_cons e_int l_nil)) (ll_cons (ll_cons ll_nil))) l_nil))) (ll_cons (ll_cons (ll_cons ll_nil)))))
 (b_cons (s_set 7 nd (e_callT1 call_tuple_of s_tuple T.z_tuple (by decide +kernel) (e_lc (own := [("_law_k", 12)]) nd (blkOk_by (own := [("_law_k", 12)]) (N := N_law) (sc := defScope s_law) (by decide +kernel)) (i_range1 (e_var 3) T.z_range) (fun _ _ _ _ _ => (g_name 12 nd (by decide))) (fun _ _ _ _ _ => ts_nil) (fun _ _ _ _ _ => (e_callC C__law_draw (hr.mono (by decide)) takes0 (l_cons (e_var 1) (l_cons e_int l_nil)) (ll_cons (ll_cons ll_nil)))))))
 (b_cons (s_set 8 nd (e_callC C__law_rule (hr.mono (by decide)) tk (l_cons (e_var 1) (l_cons (e_bin or_add s_add e_int (e_callC C__law_draw (hr.mono (by decide)) tk (l_cons (e_var 1) (l_cons e_int l_nil)) (ll_cons (ll_cons ll_nil)))) l_nil)) (ll_cons (ll_cons ll_nil))))
 (b_cons (s_set 9 nd (e_call1 (call_reprV hr) s_repr T.z_repr (by decide +kernel) (e_lst (a_cons (e_var 4) (a_cons (e_var 5) (a_cons (e_var 6) (a_cons (e_var 7) (a_cons (e_var 8) a_nil))))) (CLen.le (cl_cons (cl_cons (cl_cons (cl_cons (cl_cons cl_nil))))) (by decide)))))
 (b_cons (s_for (own := [10]) hp (i_range1 e_int T.z_range) (g_name 10 nd (by decide))
 (b_cons (s_for (own := [11]) hp (i_seq (e_tup (a_cons (e_var 4) (a_cons (e_var 5) a_nil)) (CLen.le (cl_cons (cl_cons cl_nil)) (by decide)))) (g_name 11 nd (by decide))
 (b_one (s_if (t_not (t_of (e_callFn2 C__law_right__show_share__read_share M_show_share M_read_share (hr.mono (by decide)) tk (l_cons (e_var 11) (l_cons (e_callP C__law_share_text (hr.mono (by decide)) tk (l_cons (e_var 11) l_nil) (ll_cons ll_nil)) l_nil)) (ll_cons (ll_cons ll_nil)))))
 (b_one (s_ret e_bool))
 b_nil)))
 (b_cons (s_if (t_not (t_of (e_callFn2 C__law_right__show_load__read_load M_show_load M_read_load (hr.mono (by decide)) tk (l_cons (e_var 6) (l_cons (e_callP C__law_load_text (hr.mono (by decide)) tk (l_cons (e_var 6) l_nil) (ll_cons ll_nil)) l_nil)) (ll_cons (ll_cons ll_nil)))))
 (b_one (s_ret e_bool))
 b_nil)
 (b_cons (s_if (t_not (t_of (e_callFn C__law_right__show_load M_show_load (hr.mono (by decide)) tk (l_cons e_none (l_cons (e_var 7) (l_cons (e_callP C__law_load_text (hr.mono (by decide)) tk (l_cons (e_var 7) l_nil) (ll_cons ll_nil)) l_nil))) (ll_cons (ll_cons (ll_cons ll_nil))))))
 (b_one (s_ret e_bool))
 b_nil)
 (b_one (s_if (t_not (t_of (e_callFn2 C__law_right__show_rule__read_rule M_show_rule M_read_rule (hr.mono (by decide)) tk (l_cons (e_var 8) (l_cons (e_callP C__law_rule_text (hr.mono (by decide)) tk (l_cons (e_var 8) l_nil) (ll_cons ll_nil)) l_nil)) (ll_cons (ll_cons ll_nil)))))
 (b_one (s_ret e_bool))
 b_nil))))))
 (b_one (s_if (t_cmp (op_neV hu) s_ne (e_call1 (call_reprV hr) s_repr T.z_repr (by decide +kernel) (e_lst (a_cons (e_var 4) (a_cons (e_var 5) (a_cons (e_var 6) (a_cons (e_var 7) (a_cons (e_var 8) a_nil))))) (CLen.le (cl_cons (cl_cons (cl_cons (cl_cons (cl_cons cl_nil))))) (by decide)))) (e_var 9))
 (b_one (s_ret e_bool))
 b_nil)))))))))))
 (b_one (s_ret (e_and (e_cmp (op_eqV hu) s_eq (e_callP C_show_share (hr.mono (by decide)) tk (l_cons (e_tup (a_cons (e_un un_neg s_neg e_int) (a_cons e_int a_nil)) (CLen.le (cl_cons (cl_cons cl_nil)) (by decide))) l_nil) (ll_cons ll_nil)) e_str) (e_and (e_cmp (op_eqV hu) s_eq (e_callP C_show_share (hr.mono (by decide)) tk (l_cons (e_tup (a_cons e_int (a_cons e_int a_nil)) (CLen.le (cl_cons (cl_cons cl_nil)) (by decide))) l_nil) (ll_cons ll_nil)) e_str) (e_one (e_cmp (op_eqV hu) s_eq (e_callP C_show_rule (hr.mono (by decide)) tk (l_cons (e_tup (a_cons (e_tup (a_cons e_int (a_cons e_int a_nil)) (CLen.le (cl_cons (cl_cons cl_nil)) (by decide))) (a_cons (e_tup (a_cons e_int (a_cons e_int a_nil)) (CLen.le (cl_cons (cl_cons cl_nil)) (by decide))) a_nil)) (CLen.le (cl_cons (cl_cons cl_nil)) (by decide))) l_nil) (ll_cons ll_nil)) e_str))))))))
end
theorem all_mk {l : PySem.W.OpenLaw} {w : World} {K : Fg} {h : Heap} {mg : Str → Option Value} {fa : Addr} (X : K.In h) (G : h.Ns mainGlobals mg) (hfa : mg "law" = some (.ref fa))
    {a0 a1 a2 a3 a4 a5 a6 a7 a8 a9 a10 a11 a12 a13 a14 a15 a16 a17 a18 a19 a20 a21 a22 a23 a24 a25 a26 a27 a28 a29 a30 a31 a32 a33 : Addr} {od0 an0 od1 an1 od2 an2 od3 an3 od4 an4 od5 an5 od6 an6 od7 an7 od8 an8 od9 an9 od10 an10 od11 an11 od12 an12 od13 an13 od14 an14 od15 an15 od16 an16 od17 an17 od18 an18 od19 an19 od20 an20 od21 an21 od22 an22 od23 an23 od24 an24 od25 an25 od26 an26 od27 an27 od28 an28 od29 an29 od30 an30 od31 an31 od32 an32 od33 an33 : Option Addr} {sl0 sl1 sl2 sl3 sl4 sl5 sl6 sl7 sl8 sl9 sl10 sl11 sl12 sl13 sl14 sl15 sl16 sl17 sl18 sl19 sl20 sl21 sl22 sl23 sl24 sl25 sl26 sl27 sl28 sl29 sl30 sl31 sl32 sl33 : Array (Option Value)} {oc0 kV0 dc0 pm0 cd0 ct0 oc1 kV1 dc1 pm1 cd1 ct1 oc2 kV2 dc2 pm2 cd2 ct2 oc3 kV3 dc3 pm3 cd3 ct3 oc4 kV4 dc4 pm4 cd4 ct4 oc5 kV5 dc5 pm5 cd5 ct5 oc6 kV6 dc6 pm6 cd6 ct6 oc7 kV7 dc7 pm7 cd7 ct7 oc8 kV8 dc8 pm8 cd8 ct8 oc9 kV9 dc9 pm9 cd9 ct9 oc10 kV10 dc10 pm10 cd10 ct10 oc11 kV11 dc11 pm11 cd11 ct11 oc12 kV12 dc12 pm12 cd12 ct12 oc13 kV13 dc13 pm13 cd13 ct13 oc14 kV14 dc14 pm14 cd14 ct14 oc15 kV15 dc15 pm15 cd15 ct15 oc16 kV16 dc16 pm16 cd16 ct16 oc17 kV17 dc17 pm17 cd17 ct17 oc18 kV18 dc18 pm18 cd18 ct18 oc19 kV19 dc19 pm19 cd19 ct19 oc20 kV20 dc20 pm20 cd20 ct20 oc21 kV21 dc21 pm21 cd21 ct21 oc22 kV22 dc22 pm22 cd22 ct22 oc23 kV23 dc23 pm23 cd23 ct23 oc24 kV24 dc24 pm24 cd24 ct24 oc25 kV25 dc25 pm25 cd25 ct25 oc26 kV26 dc26 pm26 cd26 ct26 oc27 kV27 dc27 pm27 cd27 ct27 oc28 kV28 dc28 pm28 cd28 ct28 oc29 kV29 dc29 pm29 cd29 ct29 oc30 kV30 dc30 pm30 cd30 ct30 oc31 kV31 dc31 pm31 cd31 ct31 oc32 kV32 dc32 pm32 cd32 ct32 oc33 kV33 dc33 pm33 cd33 ct33 : Value} {xNoShare xNoText : Addr}
    {t_FIGURES t_MOST_BOXES t_MOST_RANKS : Tok}
    (a_0 : PySem.W.nsIn K mainGlobals "show_share" = some (some (.ref a0))) (l_0 : K.lookup a0 = some ⟨oc0, od0, .func (PySem.W.fnOf "show_share" "show_share" (defArgs s_show_share) (defBody s_show_share) (defScope s_show_share) .none kV0 dc0 pm0 an0 cd0 ct0), sl0⟩) (c_0 : PySem.W.codeIn K cd0 "show_share" = true) (k_0 : PySem.W.keepIn K (.ref a0) = true)
    (a_1 : PySem.W.nsIn K mainGlobals "show_load" = some (some (.ref a1))) (l_1 : K.lookup a1 = some ⟨oc1, od1, .func (PySem.W.fnOf "show_load" "show_load" (defArgs s_show_load) (defBody s_show_load) (defScope s_show_load) .none kV1 dc1 pm1 an1 cd1 ct1), sl1⟩) (c_1 : PySem.W.codeIn K cd1 "show_load" = true) (k_1 : PySem.W.keepIn K (.ref a1) = true)
    (a_2 : PySem.W.nsIn K mainGlobals "show_rule" = some (some (.ref a2))) (l_2 : K.lookup a2 = some ⟨oc2, od2, .func (PySem.W.fnOf "show_rule" "show_rule" (defArgs s_show_rule) (defBody s_show_rule) (defScope s_show_rule) .none kV2 dc2 pm2 an2 cd2 ct2), sl2⟩) (c_2 : PySem.W.codeIn K cd2 "show_rule" = true) (k_2 : PySem.W.keepIn K (.ref a2) = true)
    (a_3 : PySem.W.nsIn K mainGlobals "is_whole" = some (some (.ref a3))) (l_3 : K.lookup a3 = some ⟨oc3, od3, .func (PySem.W.fnOf "is_whole" "is_whole" (defArgs s_is_whole) (defBody s_is_whole) (defScope s_is_whole) .none kV3 dc3 pm3 an3 cd3 ct3), sl3⟩) (c_3 : PySem.W.codeIn K cd3 "is_whole" = true) (k_3 : PySem.W.keepIn K (.ref a3) = true)
    (a_4 : PySem.W.nsIn K mainGlobals "measure" = some (some (.ref a4))) (l_4 : K.lookup a4 = some ⟨oc4, od4, .func (PySem.W.fnOf "measure" "measure" (defArgs s_measure) (defBody s_measure) (defScope s_measure) .none kV4 dc4 pm4 an4 cd4 ct4), sl4⟩) (c_4 : PySem.W.codeIn K cd4 "measure" = true) (k_4 : PySem.W.keepIn K (.ref a4) = true)
    (a_5 : PySem.W.nsIn K mainGlobals "share" = some (some (.ref a5))) (l_5 : K.lookup a5 = some ⟨oc5, od5, .func (PySem.W.fnOf "share" "share" (defArgs s_share) (defBody s_share) (defScope s_share) .none kV5 dc5 pm5 an5 cd5 ct5), sl5⟩) (c_5 : PySem.W.codeIn K cd5 "share" = true) (k_5 : PySem.W.keepIn K (.ref a5) = true)
    (a_6 : PySem.W.nsIn K mainGlobals "is_share" = some (some (.ref a6))) (l_6 : K.lookup a6 = some ⟨oc6, od6, .func (PySem.W.fnOf "is_share" "is_share" (defArgs s_is_share) (defBody s_is_share) (defScope s_is_share) .none kV6 dc6 pm6 an6 cd6 ct6), sl6⟩) (c_6 : PySem.W.codeIn K cd6 "is_share" = true) (k_6 : PySem.W.keepIn K (.ref a6) = true)
    (a_7 : PySem.W.nsIn K mainGlobals "plus" = some (some (.ref a7))) (l_7 : K.lookup a7 = some ⟨oc7, od7, .func (PySem.W.fnOf "plus" "plus" (defArgs s_plus) (defBody s_plus) (defScope s_plus) .none kV7 dc7 pm7 an7 cd7 ct7), sl7⟩) (c_7 : PySem.W.codeIn K cd7 "plus" = true) (k_7 : PySem.W.keepIn K (.ref a7) = true)
    (a_8 : PySem.W.nsIn K mainGlobals "times" = some (some (.ref a8))) (l_8 : K.lookup a8 = some ⟨oc8, od8, .func (PySem.W.fnOf "times" "times" (defArgs s_times) (defBody s_times) (defScope s_times) .none kV8 dc8 pm8 an8 cd8 ct8), sl8⟩) (c_8 : PySem.W.codeIn K cd8 "times" = true) (k_8 : PySem.W.keepIn K (.ref a8) = true)
    (a_9 : PySem.W.nsIn K mainGlobals "total" = some (some (.ref a9))) (l_9 : K.lookup a9 = some ⟨oc9, od9, .func (PySem.W.fnOf "total" "total" (defArgs s_total) (defBody s_total) (defScope s_total) .none kV9 dc9 pm9 an9 cd9 ct9), sl9⟩) (c_9 : PySem.W.codeIn K cd9 "total" = true) (k_9 : PySem.W.keepIn K (.ref a9) = true)
    (a_10 : PySem.W.nsIn K mainGlobals "is_load" = some (some (.ref a10))) (l_10 : K.lookup a10 = some ⟨oc10, od10, .func (PySem.W.fnOf "is_load" "is_load" (defArgs s_is_load) (defBody s_is_load) (defScope s_is_load) .none kV10 dc10 pm10 an10 cd10 ct10), sl10⟩) (c_10 : PySem.W.codeIn K cd10 "is_load" = true) (k_10 : PySem.W.keepIn K (.ref a10) = true)
    (a_11 : PySem.W.nsIn K mainGlobals "is_rule" = some (some (.ref a11))) (l_11 : K.lookup a11 = some ⟨oc11, od11, .func (PySem.W.fnOf "is_rule" "is_rule" (defArgs s_is_rule) (defBody s_is_rule) (defScope s_is_rule) .none kV11 dc11 pm11 an11 cd11 ct11), sl11⟩) (c_11 : PySem.W.codeIn K cd11 "is_rule" = true) (k_11 : PySem.W.keepIn K (.ref a11) = true)
    (a_12 : PySem.W.nsIn K mainGlobals "number_in" = some (some (.ref a12))) (l_12 : K.lookup a12 = some ⟨oc12, od12, .func (PySem.W.fnOf "number_in" "number_in" (defArgs s_number_in) (defBody s_number_in) (defScope s_number_in) .none kV12 dc12 pm12 an12 cd12 ct12), sl12⟩) (c_12 : PySem.W.codeIn K cd12 "number_in" = true) (k_12 : PySem.W.keepIn K (.ref a12) = true)
    (a_13 : PySem.W.nsIn K mainGlobals "signed_in" = some (some (.ref a13))) (l_13 : K.lookup a13 = some ⟨oc13, od13, .func (PySem.W.fnOf "signed_in" "signed_in" (defArgs s_signed_in) (defBody s_signed_in) (defScope s_signed_in) .none kV13 dc13 pm13 an13 cd13 ct13), sl13⟩) (c_13 : PySem.W.codeIn K cd13 "signed_in" = true) (k_13 : PySem.W.keepIn K (.ref a13) = true)
    (a_14 : PySem.W.nsIn K mainGlobals "share_in" = some (some (.ref a14))) (l_14 : K.lookup a14 = some ⟨oc14, od14, .func (PySem.W.fnOf "share_in" "share_in" (defArgs s_share_in) (defBody s_share_in) (defScope s_share_in) .none kV14 dc14 pm14 an14 cd14 ct14), sl14⟩) (c_14 : PySem.W.codeIn K cd14 "share_in" = true) (k_14 : PySem.W.keepIn K (.ref a14) = true)
    (a_15 : PySem.W.nsIn K mainGlobals "load_in" = some (some (.ref a15))) (l_15 : K.lookup a15 = some ⟨oc15, od15, .func (PySem.W.fnOf "load_in" "load_in" (defArgs s_load_in) (defBody s_load_in) (defScope s_load_in) .none kV15 dc15 pm15 an15 cd15 ct15), sl15⟩) (c_15 : PySem.W.codeIn K cd15 "load_in" = true) (k_15 : PySem.W.keepIn K (.ref a15) = true)
    (a_16 : PySem.W.nsIn K mainGlobals "need_text" = some (some (.ref a16))) (l_16 : K.lookup a16 = some ⟨oc16, od16, .func (PySem.W.fnOf "need_text" "need_text" (defArgs s_need_text) (defBody s_need_text) (defScope s_need_text) .none kV16 dc16 pm16 an16 cd16 ct16), sl16⟩) (c_16 : PySem.W.codeIn K cd16 "need_text" = true) (k_16 : PySem.W.keepIn K (.ref a16) = true)
    (a_17 : PySem.W.nsIn K mainGlobals "read_share" = some (some (.ref a17))) (l_17 : K.lookup a17 = some ⟨oc17, od17, .func (PySem.W.fnOf "read_share" "read_share" (defArgs s_read_share) (defBody s_read_share) (defScope s_read_share) .none kV17 dc17 pm17 an17 cd17 ct17), sl17⟩) (c_17 : PySem.W.codeIn K cd17 "read_share" = true) (k_17 : PySem.W.keepIn K (.ref a17) = true)
    (a_18 : PySem.W.nsIn K mainGlobals "read_load" = some (some (.ref a18))) (l_18 : K.lookup a18 = some ⟨oc18, od18, .func (PySem.W.fnOf "read_load" "read_load" (defArgs s_read_load) (defBody s_read_load) (defScope s_read_load) .none kV18 dc18 pm18 an18 cd18 ct18), sl18⟩) (c_18 : PySem.W.codeIn K cd18 "read_load" = true) (k_18 : PySem.W.keepIn K (.ref a18) = true)
    (a_19 : PySem.W.nsIn K mainGlobals "read_rule" = some (some (.ref a19))) (l_19 : K.lookup a19 = some ⟨oc19, od19, .func (PySem.W.fnOf "read_rule" "read_rule" (defArgs s_read_rule) (defBody s_read_rule) (defScope s_read_rule) .none kV19 dc19 pm19 an19 cd19 ct19), sl19⟩) (c_19 : PySem.W.codeIn K cd19 "read_rule" = true) (k_19 : PySem.W.keepIn K (.ref a19) = true)
    (a_20 : PySem.W.nsIn K mainGlobals "_law_pen" = some (some (.ref a20))) (l_20 : K.lookup a20 = some ⟨oc20, od20, .func (PySem.W.fnOf "_law_pen" "_law_pen" (defArgs s__law_pen) (defBody s__law_pen) (defScope s__law_pen) .none kV20 dc20 pm20 an20 cd20 ct20), sl20⟩) (c_20 : PySem.W.codeIn K cd20 "_law_pen" = true) (k_20 : PySem.W.keepIn K (.ref a20) = true)
    (a_21 : PySem.W.nsIn K mainGlobals "_law_draw" = some (some (.ref a21))) (l_21 : K.lookup a21 = some ⟨oc21, od21, .func (PySem.W.fnOf "_law_draw" "_law_draw" (defArgs s__law_draw) (defBody s__law_draw) (defScope s__law_draw) .none kV21 dc21 pm21 an21 cd21 ct21), sl21⟩) (c_21 : PySem.W.codeIn K cd21 "_law_draw" = true) (k_21 : PySem.W.keepIn K (.ref a21) = true)
    (a_22 : PySem.W.nsIn K mainGlobals "_law_measure" = some (some (.ref a22))) (l_22 : K.lookup a22 = some ⟨oc22, od22, .func (PySem.W.fnOf "_law_measure" "_law_measure" (defArgs s__law_measure) (defBody s__law_measure) (defScope s__law_measure) .none kV22 dc22 pm22 an22 cd22 ct22), sl22⟩) (c_22 : PySem.W.codeIn K cd22 "_law_measure" = true) (k_22 : PySem.W.keepIn K (.ref a22) = true)
    (a_23 : PySem.W.nsIn K mainGlobals "_law_lowest" = some (some (.ref a23))) (l_23 : K.lookup a23 = some ⟨oc23, od23, .func (PySem.W.fnOf "_law_lowest" "_law_lowest" (defArgs s__law_lowest) (defBody s__law_lowest) (defScope s__law_lowest) .none kV23 dc23 pm23 an23 cd23 ct23), sl23⟩) (c_23 : PySem.W.codeIn K cd23 "_law_lowest" = true) (k_23 : PySem.W.keepIn K (.ref a23) = true)
    (a_24 : PySem.W.nsIn K mainGlobals "_law_power" = some (some (.ref a24))) (l_24 : K.lookup a24 = some ⟨oc24, od24, .func (PySem.W.fnOf "_law_power" "_law_power" (defArgs s__law_power) (defBody s__law_power) (defScope s__law_power) .none kV24 dc24 pm24 an24 cd24 ct24), sl24⟩) (c_24 : PySem.W.codeIn K cd24 "_law_power" = true) (k_24 : PySem.W.keepIn K (.ref a24) = true)
    (a_25 : PySem.W.nsIn K mainGlobals "_law_rule" = some (some (.ref a25))) (l_25 : K.lookup a25 = some ⟨oc25, od25, .func (PySem.W.fnOf "_law_rule" "_law_rule" (defArgs s__law_rule) (defBody s__law_rule) (defScope s__law_rule) .none kV25 dc25 pm25 an25 cd25 ct25), sl25⟩) (c_25 : PySem.W.codeIn K cd25 "_law_rule" = true) (k_25 : PySem.W.keepIn K (.ref a25) = true)
    (a_26 : PySem.W.nsIn K mainGlobals "_law_load" = some (some (.ref a26))) (l_26 : K.lookup a26 = some ⟨oc26, od26, .func (PySem.W.fnOf "_law_load" "_law_load" (defArgs s__law_load) (defBody s__law_load) (defScope s__law_load) .none kV26 dc26 pm26 an26 cd26 ct26), sl26⟩) (c_26 : PySem.W.codeIn K cd26 "_law_load" = true) (k_26 : PySem.W.keepIn K (.ref a26) = true)
    (a_27 : PySem.W.nsIn K mainGlobals "_law_figures" = some (some (.ref a27))) (l_27 : K.lookup a27 = some ⟨oc27, od27, .func (PySem.W.fnOf "_law_figures" "_law_figures" (defArgs s__law_figures) (defBody s__law_figures) (defScope s__law_figures) .none kV27 dc27 pm27 an27 cd27 ct27), sl27⟩) (c_27 : PySem.W.codeIn K cd27 "_law_figures" = true) (k_27 : PySem.W.keepIn K (.ref a27) = true)
    (a_28 : PySem.W.nsIn K mainGlobals "_law_share_text" = some (some (.ref a28))) (l_28 : K.lookup a28 = some ⟨oc28, od28, .func (PySem.W.fnOf "_law_share_text" "_law_share_text" (defArgs s__law_share_text) (defBody s__law_share_text) (defScope s__law_share_text) .none kV28 dc28 pm28 an28 cd28 ct28), sl28⟩) (c_28 : PySem.W.codeIn K cd28 "_law_share_text" = true) (k_28 : PySem.W.keepIn K (.ref a28) = true)
    (a_29 : PySem.W.nsIn K mainGlobals "_law_load_text" = some (some (.ref a29))) (l_29 : K.lookup a29 = some ⟨oc29, od29, .func (PySem.W.fnOf "_law_load_text" "_law_load_text" (defArgs s__law_load_text) (defBody s__law_load_text) (defScope s__law_load_text) .none kV29 dc29 pm29 an29 cd29 ct29), sl29⟩) (c_29 : PySem.W.codeIn K cd29 "_law_load_text" = true) (k_29 : PySem.W.keepIn K (.ref a29) = true)
    (a_30 : PySem.W.nsIn K mainGlobals "_law_rule_text" = some (some (.ref a30))) (l_30 : K.lookup a30 = some ⟨oc30, od30, .func (PySem.W.fnOf "_law_rule_text" "_law_rule_text" (defArgs s__law_rule_text) (defBody s__law_rule_text) (defScope s__law_rule_text) .none kV30 dc30 pm30 an30 cd30 ct30), sl30⟩) (c_30 : PySem.W.codeIn K cd30 "_law_rule_text" = true) (k_30 : PySem.W.keepIn K (.ref a30) = true)
    (a_31 : PySem.W.nsIn K mainGlobals "_law_part" = some (some (.ref a31))) (l_31 : K.lookup a31 = some ⟨oc31, od31, .func (PySem.W.fnOf "_law_part" "_law_part" (defArgs s__law_part) (defBody s__law_part) (defScope s__law_part) .none kV31 dc31 pm31 an31 cd31 ct31), sl31⟩) (c_31 : PySem.W.codeIn K cd31 "_law_part" = true) (k_31 : PySem.W.keepIn K (.ref a31) = true)
    (a_32 : PySem.W.nsIn K mainGlobals "_law_right" = some (some (.ref a32))) (l_32 : K.lookup a32 = some ⟨oc32, od32, .func (PySem.W.fnOf "_law_right" "_law_right" (defArgs s__law_right) (defBody s__law_right) (defScope s__law_right) .none kV32 dc32 pm32 an32 cd32 ct32), sl32⟩) (c_32 : PySem.W.codeIn K cd32 "_law_right" = true) (k_32 : PySem.W.keepIn K (.ref a32) = true)
    (a_33 : PySem.W.nsIn K mainGlobals "law" = some (some (.ref a33))) (l_33 : K.lookup a33 = some ⟨oc33, od33, .func (PySem.W.fnOf "law" "law" (defArgs s_law) (defBody s_law) (defScope s_law) .none kV33 dc33 pm33 an33 cd33 ct33), sl33⟩) (c_33 : PySem.W.codeIn K cd33 "law" = true) (k_33 : PySem.W.keepIn K (.ref a33) = true)
    (z_abs : PySem.W.nsIn K mainGlobals "abs" = some none)
    (z_all : PySem.W.nsIn K mainGlobals "all" = some none)
    (z_bool : PySem.W.nsIn K mainGlobals "bool" = some none)
    (z_int : PySem.W.nsIn K mainGlobals "int" = some none)
    (z_isinstance : PySem.W.nsIn K mainGlobals "isinstance" = some none)
    (z_len : PySem.W.nsIn K mainGlobals "len" = some none)
    (z_list : PySem.W.nsIn K mainGlobals "list" = some none)
    (z_min : PySem.W.nsIn K mainGlobals "min" = some none)
    (z_range : PySem.W.nsIn K mainGlobals "range" = some none)
    (z_repr : PySem.W.nsIn K mainGlobals "repr" = some none)
    (z_sorted : PySem.W.nsIn K mainGlobals "sorted" = some none)
    (z_str : PySem.W.nsIn K mainGlobals "str" = some none)
    (z_sum : PySem.W.nsIn K mainGlobals "sum" = some none)
    (z_tuple : PySem.W.nsIn K mainGlobals "tuple" = some none)
    (xa_NoShare : PySem.W.nsIn K mainGlobals "NoShare" = some (some (.ref xNoShare))) (xx_NoShare : PySem.W.excIn K xNoShare [.type "ValueError", .type "Exception", .type "BaseException", .type "object"] "ValueError.__new__" = true) (xk_NoShare : PySem.W.keepIn K (.ref xNoShare) = true) (xb_NoShare : PySem.W.subIn K (.ref xNoShare) (.type "BaseException") = some true) (xt_NoShare : PySem.W.typeIn K (.ref xNoShare) = some (.type "type"))
    (xa_NoText : PySem.W.nsIn K mainGlobals "NoText" = some (some (.ref xNoText))) (xx_NoText : PySem.W.excIn K xNoText [.type "ValueError", .type "Exception", .type "BaseException", .type "object"] "ValueError.__new__" = true) (xk_NoText : PySem.W.keepIn K (.ref xNoText) = true) (xb_NoText : PySem.W.subIn K (.ref xNoText) (.type "BaseException") = some true) (xt_NoText : PySem.W.typeIn K (.ref xNoText) = some (.type "type"))
    (g_FIGURES : PySem.W.nsIn K mainGlobals "FIGURES" = some (some (.str "0123456789" t_FIGURES)))
    (g_MOST_BOXES : PySem.W.nsIn K mainGlobals "MOST_BOXES" = some (some (.int 6 t_MOST_BOXES)))
    (g_MOST_RANKS : PySem.W.nsIn K mainGlobals "MOST_RANKS" = some (some (.int 12 t_MOST_RANKS)))
    : ∃ fd : FuncData, (∀ (s : Shared) (v : Value), BindsTo s fd ⟨[v], []⟩ [("_law_script", v)]) ∧ ∀ base : Heap, K.In base → base.Ns mainGlobals mg → FnG l.prog w K mg base 8 fa fd ["_law_script"] (spLaw K f_law []) := by
  have e := hfa.symm.trans (PySem.W.mg_of X G a_33)
  have T : Txt K mg (ecOf mg [] []) := ⟨PySem.W.mg_none_of X G z_abs, PySem.W.mg_none_of X G z_all, PySem.W.mg_none_of X G z_bool, PySem.W.mg_none_of X G z_int, PySem.W.mg_none_of X G z_isinstance, PySem.W.mg_none_of X G z_len, PySem.W.mg_none_of X G z_list, PySem.W.mg_none_of X G z_min, PySem.W.mg_none_of X G z_range, PySem.W.mg_none_of X G z_repr, PySem.W.mg_none_of X G z_sorted, PySem.W.mg_none_of X G z_str, PySem.W.mg_none_of X G z_sum, PySem.W.mg_none_of X G z_tuple, ⟨exc_g (PySem.W.mg_of X G xa_NoShare), exc_e (P := fun a => PySem.W.excIn K a [.type "ValueError", .type "Exception", .type "BaseException", .type "object"] "ValueError.__new__" = true) (PySem.W.mg_of X G xa_NoShare) xx_NoShare, exc_e (P := fun a => PySem.W.keepIn K (.ref a) = true) (PySem.W.mg_of X G xa_NoShare) xk_NoShare, exc_e (P := fun a => PySem.W.subIn K (.ref a) (.type "BaseException") = some true) (PySem.W.mg_of X G xa_NoShare) xb_NoShare, exc_e (P := fun a => PySem.W.typeIn K (.ref a) = some (.type "type")) (PySem.W.mg_of X G xa_NoShare) xt_NoShare⟩, ⟨exc_g (PySem.W.mg_of X G xa_NoText), exc_e (P := fun a => PySem.W.excIn K a [.type "ValueError", .type "Exception", .type "BaseException", .type "object"] "ValueError.__new__" = true) (PySem.W.mg_of X G xa_NoText) xx_NoText, exc_e (P := fun a => PySem.W.keepIn K (.ref a) = true) (PySem.W.mg_of X G xa_NoText) xk_NoText, exc_e (P := fun a => PySem.W.subIn K (.ref a) (.type "BaseException") = some true) (PySem.W.mg_of X G xa_NoText) xb_NoText, exc_e (P := fun a => PySem.W.typeIn K (.ref a) = some (.type "type")) (PySem.W.mg_of X G xa_NoText) xt_NoText⟩, ⟨_, PySem.W.mg_of X G g_FIGURES⟩, ⟨_, PySem.W.mg_of X G g_MOST_BOXES⟩, ⟨_, PySem.W.mg_of X G g_MOST_RANKS⟩, bas_bot⟩
  have D0 : DefF K mg "show_share" s_show_share ["a"] := defF_mk (st := s_show_share) (PySem.W.mg_of X G a_0) l_0 c_0 k_0 fun _ _ _ _ _ _ us hl => match us, hl with | [_], _ => rfl
  have D1 : DefF K mg "show_load" s_show_load ["load"] := defF_mk (st := s_show_load) (PySem.W.mg_of X G a_1) l_1 c_1 k_1 fun _ _ _ _ _ _ us hl => match us, hl with | [_], _ => rfl
  have D2 : DefF K mg "show_rule" s_show_rule ["rule"] := defF_mk (st := s_show_rule) (PySem.W.mg_of X G a_2) l_2 c_2 k_2 fun _ _ _ _ _ _ us hl => match us, hl with | [_], _ => rfl
  have D3 : DefF K mg "is_whole" s_is_whole ["thing"] := defF_mk (st := s_is_whole) (PySem.W.mg_of X G a_3) l_3 c_3 k_3 fun _ _ _ _ _ _ us hl => match us, hl with | [_], _ => rfl
  have D4 : DefF K mg "measure" s_measure ["a", "b"] := defF_mk (st := s_measure) (PySem.W.mg_of X G a_4) l_4 c_4 k_4 fun _ _ _ _ _ _ us hl => match us, hl with | [_, _], _ => rfl
  have D5 : DefF K mg "share" s_share ["top", "bottom"] := defF_mk (st := s_share) (PySem.W.mg_of X G a_5) l_5 c_5 k_5 fun _ _ _ _ _ _ us hl => match us, hl with | [_, _], _ => rfl
  have D6 : DefF K mg "is_share" s_is_share ["thing"] := defF_mk (st := s_is_share) (PySem.W.mg_of X G a_6) l_6 c_6 k_6 fun _ _ _ _ _ _ us hl => match us, hl with | [_], _ => rfl
  have D7 : DefF K mg "plus" s_plus ["a", "b"] := defF_mk (st := s_plus) (PySem.W.mg_of X G a_7) l_7 c_7 k_7 fun _ _ _ _ _ _ us hl => match us, hl with | [_, _], _ => rfl
  have D8 : DefF K mg "times" s_times ["a", "b"] := defF_mk (st := s_times) (PySem.W.mg_of X G a_8) l_8 c_8 k_8 fun _ _ _ _ _ _ us hl => match us, hl with | [_, _], _ => rfl
  have D9 : DefF K mg "total" s_total ["some"] := defF_mk (st := s_total) (PySem.W.mg_of X G a_9) l_9 c_9 k_9 fun _ _ _ _ _ _ us hl => match us, hl with | [_], _ => rfl
  have D10 : DefF K mg "is_load" s_is_load ["thing"] := defF_mk (st := s_is_load) (PySem.W.mg_of X G a_10) l_10 c_10 k_10 fun _ _ _ _ _ _ us hl => match us, hl with | [_], _ => rfl
  have D11 : DefF K mg "is_rule" s_is_rule ["thing"] := defF_mk (st := s_is_rule) (PySem.W.mg_of X G a_11) l_11 c_11 k_11 fun _ _ _ _ _ _ us hl => match us, hl with | [_], _ => rfl
  have D12 : DefF K mg "number_in" s_number_in ["word"] := defF_mk (st := s_number_in) (PySem.W.mg_of X G a_12) l_12 c_12 k_12 fun _ _ _ _ _ _ us hl => match us, hl with | [_], _ => rfl
  have D13 : DefF K mg "signed_in" s_signed_in ["word"] := defF_mk (st := s_signed_in) (PySem.W.mg_of X G a_13) l_13 c_13 k_13 fun _ _ _ _ _ _ us hl => match us, hl with | [_], _ => rfl
  have D14 : DefF K mg "share_in" s_share_in ["word"] := defF_mk (st := s_share_in) (PySem.W.mg_of X G a_14) l_14 c_14 k_14 fun _ _ _ _ _ _ us hl => match us, hl with | [_], _ => rfl
  have D15 : DefF K mg "load_in" s_load_in ["text"] := defF_mk (st := s_load_in) (PySem.W.mg_of X G a_15) l_15 c_15 k_15 fun _ _ _ _ _ _ us hl => match us, hl with | [_], _ => rfl
  have D16 : DefF K mg "need_text" s_need_text ["thing"] := defF_mk (st := s_need_text) (PySem.W.mg_of X G a_16) l_16 c_16 k_16 fun _ _ _ _ _ _ us hl => match us, hl with | [_], _ => rfl
  have D17 : DefF K mg "read_share" s_read_share ["text"] := defF_mk (st := s_read_share) (PySem.W.mg_of X G a_17) l_17 c_17 k_17 fun _ _ _ _ _ _ us hl => match us, hl with | [_], _ => rfl
  have D18 : DefF K mg "read_load" s_read_load ["text"] := defF_mk (st := s_read_load) (PySem.W.mg_of X G a_18) l_18 c_18 k_18 fun _ _ _ _ _ _ us hl => match us, hl with | [_], _ => rfl
  have D19 : DefF K mg "read_rule" s_read_rule ["text"] := defF_mk (st := s_read_rule) (PySem.W.mg_of X G a_19) l_19 c_19 k_19 fun _ _ _ _ _ _ us hl => match us, hl with | [_], _ => rfl
  have D20 : DefF K mg "_law_pen" s__law_pen ["_law_script"] := defF_mk (st := s__law_pen) (PySem.W.mg_of X G a_20) l_20 c_20 k_20 fun _ _ _ _ _ _ us hl => match us, hl with | [_], _ => rfl
  have D21 : DefF K mg "_law_draw" s__law_draw ["_law_pen_here", "_law_many"] := defF_mk (st := s__law_draw) (PySem.W.mg_of X G a_21) l_21 c_21 k_21 fun _ _ _ _ _ _ us hl => match us, hl with | [_, _], _ => rfl
  have D22 : DefF K mg "_law_measure" s__law_measure ["_law_a", "_law_b"] := defF_mk (st := s__law_measure) (PySem.W.mg_of X G a_22) l_22 c_22 k_22 fun _ _ _ _ _ _ us hl => match us, hl with | [_, _], _ => rfl
  have D23 : DefF K mg "_law_lowest" s__law_lowest ["_law_top", "_law_bottom"] := defF_mk (st := s__law_lowest) (PySem.W.mg_of X G a_23) l_23 c_23 k_23 fun _ _ _ _ _ _ us hl => match us, hl with | [_, _], _ => rfl
  have D24 : DefF K mg "_law_power" s__law_power ["_law_number", "_law_many"] := defF_mk (st := s__law_power) (PySem.W.mg_of X G a_24) l_24 c_24 k_24 fun _ _ _ _ _ _ us hl => match us, hl with | [_, _], _ => rfl
  have D25 : DefF K mg "_law_rule" s__law_rule ["_law_pen_here", "_law_n"] := defF_mk (st := s__law_rule) (PySem.W.mg_of X G a_25) l_25 c_25 k_25 fun _ _ _ _ _ _ us hl => match us, hl with | [_, _], _ => rfl
  have D26 : DefF K mg "_law_load" s__law_load ["_law_pen_here", "_law_n", "_law_balls"] := defF_mk (st := s__law_load) (PySem.W.mg_of X G a_26) l_26 c_26 k_26 fun _ _ _ _ _ _ us hl => match us, hl with | [_, _, _], _ => rfl
  have D27 : DefF K mg "_law_figures" s__law_figures ["_law_number"] := defF_mk (st := s__law_figures) (PySem.W.mg_of X G a_27) l_27 c_27 k_27 fun _ _ _ _ _ _ us hl => match us, hl with | [_], _ => rfl
  have D28 : DefF K mg "_law_share_text" s__law_share_text ["_law_part_here"] := defF_mk (st := s__law_share_text) (PySem.W.mg_of X G a_28) l_28 c_28 k_28 fun _ _ _ _ _ _ us hl => match us, hl with | [_], _ => rfl
  have D29 : DefF K mg "_law_load_text" s__law_load_text ["_law_load_here"] := defF_mk (st := s__law_load_text) (PySem.W.mg_of X G a_29) l_29 c_29 k_29 fun _ _ _ _ _ _ us hl => match us, hl with | [_], _ => rfl
  have D30 : DefF K mg "_law_rule_text" s__law_rule_text ["_law_rule_here"] := defF_mk (st := s__law_rule_text) (PySem.W.mg_of X G a_30) l_30 c_30 k_30 fun _ _ _ _ _ _ us hl => match us, hl with | [_], _ => rfl
  have D31 : DefF K mg "_law_part" s__law_part ["_law_pen_here"] := defF_mk (st := s__law_part) (PySem.W.mg_of X G a_31) l_31 c_31 k_31 fun _ _ _ _ _ _ us hl => match us, hl with | [_], _ => rfl
  have D32 : DefF K mg "_law_right" s__law_right ["_law_shower", "_law_reader", "_law_thing", "_law_text"] := defF_mk (st := s__law_right) (PySem.W.mg_of X G a_32) l_32 c_32 k_32 fun _ _ _ _ _ _ us hl => match us, hl with | [_, _, _, _], _ => rfl
  have D33 : DefF K mg "law" s_law ["_law_script"] := defF_mk (st := s_law) (PySem.W.mg_of X G a_33) l_33 c_33 k_33 fun _ _ _ _ _ _ us hl => match us, hl with | [_], _ => rfl
  refine spLaw_of (ec := (ecOf mg [] [])) rfl D33 hfa fun base _ _ => ?_
  have C0 := ok_show_share (P := l.prog) (wo := w) (base := base) T D0 
  have C1 := ok_show_load (P := l.prog) (wo := w) (base := base) T D1 
  have C2 := ok_show_rule (P := l.prog) (wo := w) (base := base) T D2 C0
  have C3 := ok_is_whole (P := l.prog) (wo := w) (base := base) T D3 
  have C4 := ok_measure (P := l.prog) (wo := w) (base := base) T D4 
  have C5 := ok_share (P := l.prog) (wo := w) (base := base) T D5 C4
  have C6 := ok_is_share (P := l.prog) (wo := w) (base := base) T D6 C3 C4
  have C7 := ok_plus (P := l.prog) (wo := w) (base := base) T D7 C5
  have C8 := ok_times (P := l.prog) (wo := w) (base := base) T D8 C5
  have C9 := ok_total (P := l.prog) (wo := w) (base := base) T D9 C7
  have C10 := ok_is_load (P := l.prog) (wo := w) (base := base) T D10 C3
  have C11 := ok_is_rule (P := l.prog) (wo := w) (base := base) T D11 C6 C9
  have C12 := ok_number_in (P := l.prog) (wo := w) (base := base) T D12 
  have C13 := ok_signed_in (P := l.prog) (wo := w) (base := base) T D13 C12
  have C14 := ok_share_in (P := l.prog) (wo := w) (base := base) T D14 C6 C12 C13
  have C15 := ok_load_in (P := l.prog) (wo := w) (base := base) T D15 C10 C12
  have C16 := ok_need_text (P := l.prog) (wo := w) (base := base) T D16 
  have C17 := ok_read_share (P := l.prog) (wo := w) (base := base) T D17 C14 C16
  have C18 := ok_read_load (P := l.prog) (wo := w) (base := base) T D18 C15 C16
  have C19 := ok_read_rule (P := l.prog) (wo := w) (base := base) T D19 C11 C14 C16
  have C20 := ok__law_pen (P := l.prog) (wo := w) (base := base) T D20 
  have C21 := ok__law_draw (P := l.prog) (wo := w) (base := base) T D21 
  have C22 := ok__law_measure (P := l.prog) (wo := w) (base := base) T D22 
  have C23 := ok__law_lowest (P := l.prog) (wo := w) (base := base) T D23 C22
  have C24 := ok__law_power (P := l.prog) (wo := w) (base := base) T D24 
  have C25 := ok__law_rule (P := l.prog) (wo := w) (base := base) T D25 C21 C23 C24
  have C26 := ok__law_load (P := l.prog) (wo := w) (base := base) T D26 C21
  have C27 := ok__law_figures (P := l.prog) (wo := w) (base := base) T D27 
  have C28 := ok__law_share_text (P := l.prog) (wo := w) (base := base) T D28 C27
  have C29 := ok__law_load_text (P := l.prog) (wo := w) (base := base) T D29 C27
  have C30 := ok__law_rule_text (P := l.prog) (wo := w) (base := base) T D30 C28
  have C31 := ok__law_part (P := l.prog) (wo := w) (base := base) T D31 C21 C23
  have C32_1_18 := ok2__law_right (P := l.prog) (wo := w) (base := base) (ec := (ecOf mg [] [])) (fa1 := a1) (fa2 := a18) (txt_fn2 T a1 a18) D32 C1 (PySem.W.mg_of X G a_1) rfl (by decide) C18 (PySem.W.mg_of X G a_18) rfl (by decide)
  have C32_1 := ok1__law_right (P := l.prog) (wo := w) (base := base) (ec := (ecOf mg [] [])) (fa := a1) (txt_fn T a1) D32 C1 (PySem.W.mg_of X G a_1) rfl (by decide)
  have C32_2_19 := ok2__law_right (P := l.prog) (wo := w) (base := base) (ec := (ecOf mg [] [])) (fa1 := a2) (fa2 := a19) (txt_fn2 T a2 a19) D32 C2 (PySem.W.mg_of X G a_2) rfl (by decide) C19 (PySem.W.mg_of X G a_19) rfl (by decide)
  have C32_0_17 := ok2__law_right (P := l.prog) (wo := w) (base := base) (ec := (ecOf mg [] [])) (fa1 := a0) (fa2 := a17) (txt_fn2 T a0 a17) D32 C0 (PySem.W.mg_of X G a_0) rfl (by decide) C17 (PySem.W.mg_of X G a_17) rfl (by decide)
  have C33 := ok_law (P := l.prog) (wo := w) (base := base) T D33 C0 C1 C2 C8 C17 C18 C19 C20 C21 C25 C26 C28 C29 C30 C31 (PySem.W.mg_of X G a_18) (PySem.W.mg_of X G a_19) (PySem.W.mg_of X G a_17) (PySem.W.mg_of X G a_1) (PySem.W.mg_of X G a_2) (PySem.W.mg_of X G a_0) C32_1_18 C32_1 C32_2_19 C32_0_17
  exact C33
end Vm
open PySem PySem.W PyProof.Rows
set_option maxRecDepth 100000 in
set_option maxHeartbeats 0 in
theorem PySem.Challenge.cw_emptierbox_k59_shares_loads_rules_as_tex_holds : PySem.Challenge.rw_emptierbox_k59_shares_loads_rules_as_tex.Holds := by
  w_on; o_law; k_head; (case hw => w_witness2)
  k_fill
  refine Vm.walkG (l := PySem.Challenge.rw_emptierbox_k59_shares_loads_rules_as_tex) (n := 63) (k := 8) (f := Vm.f_law) rfl (by decide) rfl ⟨rfl, by decide, by decide⟩ (fun w h Y => PySem.W.kIn_of Y) ?F (fun ns hl => Vm.law_true ns hl)
  case F =>
    intro w mg fa h KX G hmg
    refine' Vm.all_mk KX G hmg ?a_0 ?l_0 ?c_0 ?k_0 ?a_1 ?l_1 ?c_1 ?k_1 ?a_2 ?l_2 ?c_2 ?k_2 ?a_3 ?l_3 ?c_3 ?k_3 ?a_4 ?l_4 ?c_4 ?k_4 ?a_5 ?l_5 ?c_5 ?k_5 ?a_6 ?l_6 ?c_6 ?k_6 ?a_7 ?l_7 ?c_7 ?k_7 ?a_8 ?l_8 ?c_8 ?k_8 ?a_9 ?l_9 ?c_9 ?k_9 ?a_10 ?l_10 ?c_10 ?k_10 ?a_11 ?l_11 ?c_11 ?k_11 ?a_12 ?l_12 ?c_12 ?k_12 ?a_13 ?l_13 ?c_13 ?k_13 ?a_14 ?l_14 ?c_14 ?k_14 ?a_15 ?l_15 ?c_15 ?k_15 ?a_16 ?l_16 ?c_16 ?k_16 ?a_17 ?l_17 ?c_17 ?k_17 ?a_18 ?l_18 ?c_18 ?k_18 ?a_19 ?l_19 ?c_19 ?k_19 ?a_20 ?l_20 ?c_20 ?k_20 ?a_21 ?l_21 ?c_21 ?k_21 ?a_22 ?l_22 ?c_22 ?k_22 ?a_23 ?l_23 ?c_23 ?k_23 ?a_24 ?l_24 ?c_24 ?k_24 ?a_25 ?l_25 ?c_25 ?k_25 ?a_26 ?l_26 ?c_26 ?k_26 ?a_27 ?l_27 ?c_27 ?k_27 ?a_28 ?l_28 ?c_28 ?k_28 ?a_29 ?l_29 ?c_29 ?k_29 ?a_30 ?l_30 ?c_30 ?k_30 ?a_31 ?l_31 ?c_31 ?k_31 ?a_32 ?l_32 ?c_32 ?k_32 ?a_33 ?l_33 ?c_33 ?k_33 ?z_abs ?z_all ?z_bool ?z_int ?z_isinstance ?z_len ?z_list ?z_min ?z_range ?z_repr ?z_sorted ?z_str ?z_sum ?z_tuple ?xa_NoShare ?xx_NoShare ?xk_NoShare ?xb_NoShare ?xt_NoShare ?xa_NoText ?xx_NoText ?xk_NoText ?xb_NoText ?xt_NoText ?g_FIGURES ?g_MOST_BOXES ?g_MOST_RANKS
    (case a_0 => k_is)
    (case l_0 => k_is)
    (case c_0 => k_is)
    (case k_0 => k_is)
    (case a_1 => k_is)
    (case l_1 => k_is)
    (case c_1 => k_is)
    (case k_1 => k_is)
    (case a_2 => k_is)
    (case l_2 => k_is)
    (case c_2 => k_is)
    (case k_2 => k_is)
    (case a_3 => k_is)
    (case l_3 => k_is)
    (case c_3 => k_is)
    (case k_3 => k_is)
    (case a_4 => k_is)
    (case l_4 => k_is)
    (case c_4 => k_is)
    (case k_4 => k_is)
    (case a_5 => k_is)
    (case l_5 => k_is)
    (case c_5 => k_is)
    (case k_5 => k_is)
    (case a_6 => k_is)
    (case l_6 => k_is)
    (case c_6 => k_is)
    (case k_6 => k_is)
    (case a_7 => k_is)
    (case l_7 => k_is)
    (case c_7 => k_is)
    (case k_7 => k_is)
    (case a_8 => k_is)
    (case l_8 => k_is)
    (case c_8 => k_is)
    (case k_8 => k_is)
    (case a_9 => k_is)
    (case l_9 => k_is)
    (case c_9 => k_is)
    (case k_9 => k_is)
    (case a_10 => k_is)
    (case l_10 => k_is)
    (case c_10 => k_is)
    (case k_10 => k_is)
    (case a_11 => k_is)
    (case l_11 => k_is)
    (case c_11 => k_is)
    (case k_11 => k_is)
    (case a_12 => k_is)
    (case l_12 => k_is)
    (case c_12 => k_is)
    (case k_12 => k_is)
    (case a_13 => k_is)
    (case l_13 => k_is)
    (case c_13 => k_is)
    (case k_13 => k_is)
    (case a_14 => k_is)
    (case l_14 => k_is)
    (case c_14 => k_is)
    (case k_14 => k_is)
    (case a_15 => k_is)
    (case l_15 => k_is)
    (case c_15 => k_is)
    (case k_15 => k_is)
    (case a_16 => k_is)
    (case l_16 => k_is)
    (case c_16 => k_is)
    (case k_16 => k_is)
    (case a_17 => k_is)
    (case l_17 => k_is)
    (case c_17 => k_is)
    (case k_17 => k_is)
    (case a_18 => k_is)
    (case l_18 => k_is)
    (case c_18 => k_is)
    (case k_18 => k_is)
    (case a_19 => k_is)
    (case l_19 => k_is)
    (case c_19 => k_is)
    (case k_19 => k_is)
    (case a_20 => k_is)
    (case l_20 => k_is)
    (case c_20 => k_is)
    (case k_20 => k_is)
    (case a_21 => k_is)
    (case l_21 => k_is)
    (case c_21 => k_is)
    (case k_21 => k_is)
    (case a_22 => k_is)
    (case l_22 => k_is)
    (case c_22 => k_is)
    (case k_22 => k_is)
    (case a_23 => k_is)
    (case l_23 => k_is)
    (case c_23 => k_is)
    (case k_23 => k_is)
    (case a_24 => k_is)
    (case l_24 => k_is)
    (case c_24 => k_is)
    (case k_24 => k_is)
    (case a_25 => k_is)
    (case l_25 => k_is)
    (case c_25 => k_is)
    (case k_25 => k_is)
    (case a_26 => k_is)
    (case l_26 => k_is)
    (case c_26 => k_is)
    (case k_26 => k_is)
    (case a_27 => k_is)
    (case l_27 => k_is)
    (case c_27 => k_is)
    (case k_27 => k_is)
    (case a_28 => k_is)
    (case l_28 => k_is)
    (case c_28 => k_is)
    (case k_28 => k_is)
    (case a_29 => k_is)
    (case l_29 => k_is)
    (case c_29 => k_is)
    (case k_29 => k_is)
    (case a_30 => k_is)
    (case l_30 => k_is)
    (case c_30 => k_is)
    (case k_30 => k_is)
    (case a_31 => k_is)
    (case l_31 => k_is)
    (case c_31 => k_is)
    (case k_31 => k_is)
    (case a_32 => k_is)
    (case l_32 => k_is)
    (case c_32 => k_is)
    (case k_32 => k_is)
    (case a_33 => k_is)
    (case l_33 => k_is)
    (case c_33 => k_is)
    (case k_33 => k_is)
    (case z_abs => k_is)
    (case z_all => k_is)
    (case z_bool => k_is)
    (case z_int => k_is)
    (case z_isinstance => k_is)
    (case z_len => k_is)
    (case z_list => k_is)
    (case z_min => k_is)
    (case z_range => k_is)
    (case z_repr => k_is)
    (case z_sorted => k_is)
    (case z_str => k_is)
    (case z_sum => k_is)
    (case z_tuple => k_is)
    (case xa_NoShare => k_is)
    (case xx_NoShare => k_exc)
    (case xk_NoShare => k_is)
    (case xb_NoShare => k_is)
    (case xt_NoShare => k_is)
    (case xa_NoText => k_is)
    (case xx_NoText => k_exc)
    (case xk_NoText => k_is)
    (case xb_NoText => k_is)
    (case xt_NoText => k_is)
    (case g_FIGURES => k_is)
    (case g_MOST_BOXES => k_is)
    (case g_MOST_RANKS => k_is)
