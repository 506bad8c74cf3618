import PyProof.Rows.All
import Wide.All
import OpenK.AllK
import Wide.FinOn
import HandS.ForMost
import HandS.ForExc
import HandS.Lambda
import KE.KDictKeyed
import HandS.IsInst
import HandS.Wide
import HandS.TupAny
import HandS.TupLe
import HandS.Flow
import KE.DataCmp
import KE.DataEq
import HandS.Zip
import HandS.Style
import HandS.SortInts
import KE.KTupSum
import PyProof.Rows.SeqMore
import HandS.TupMul
import PyProof.ReprReads
import PyProof.ReprRoads
import KE.SortData
import HandS.SetFor
import HandS.RaiseMore
import HandS.SortKw
import KE.DataMinMax
import KE.DataFind
import HandS.FStrTup
import KE.GoesMore
import PyProof.ReprLen
import KE.KRevSl
import HandS.ExcIs
import HandS.TryOnly
import HandS.Codes
import HandS.EndTab
import KE.KNestM
import KE.KLam
import HandS.WideBits
import KE.KDictSum
import HandS.DictTup
import HandS.Conv
import HandS.SetKeys
import KE.KDictCopyH
import HandS.TupLen
import KE.KDictPairs
import KE.KDictDisplayH
import PyProof.DictTable
import HandS.Comp
import HandS.SortOrd
import PyProof.Rows.SetFrom
import HandS.DictEq
import HandS.DeepEq
import HandS.Iter
import HandS.TupSets
import HandS.Strs
import HandS.Text
import HandS.Steps
import PyProof.StrOps2
import PyProof.Rows.ReprOcc
import PySem.Challenge.RW_emptierbox_k57_a_room
set_option Elab.async false
set_option linter.all false
set_option maxRecDepth 100000
set_option maxHeartbeats 4000000
/-! A small machine by values: what Python's text does with data, as total functions; each construct's rule over the hand layer. -/
namespace Vm
open PySem L2
abbrev D := PyData
abbrev Fg := PySem.W.Frag
/-- a dict's key as data -/
def kD : L2.Key → D
  | .inl i => .int i
  | .inr x => .str x
/-- a tuple of keys as data -/
def tupK (ks : List L2.Key) : D := .tuple (ks.map kD)
/-- ahead of the entries of a dict whose keys are tuples -/
def tagT : D × D := (.list [], .none)
def isTag : List (D × D) → Bool
  | (.list _, _) :: _ => true
  | _ => false
/-- ahead of the entries of a dict whose keys are tuples of tuples -/
def tagN : D × D := (.list [.none], .none)
/-- ahead of the entries of a locked dict whose keys are plain -/
def tagF : D × D := (.list [.bool true], .none)
/-! ### a dict whose keys are tuples of tuples of whole numbers -/
mutual
def nkPlain : NestedKey → Bool
  | .num _ => true
  | .tup ks => nkPlainAll ks
  | .none => false
  | .text _ => false
def nkPlainAll : List NestedKey → Bool
  | [] => true
  | k :: ks => nkPlain k && nkPlainAll ks
end
mutual
/-- the hash of such a key: no text, so no World -/
def nkH : NestedKey → Int
  | .num i => hashInt i
  | .tup ks => reduceHash (Builtin.Tuple.tupleHashOf (nkHs ks))
  | .none => 0
  | .text _ => 0
def nkHs : List NestedKey → List Int
  | [] => []
  | k :: ks => nkH k :: nkHs ks
end
def nkRel (a : NestedKey × Addr × V) (b : NestedKey × Addr × Value) : Prop := a.1 = b.1 ∧ a.2.1 = b.2.1 ∧ RelV a.2.2 b.2.2
def NkE (kas : List (NestedKey × Addr × V)) (p : Addr) (h : Heap) : Prop :=
  ∃ (o : Obj) (es : Array DictEntry) (ep : Nat) (xs : List (NestedKey × Addr × Value)), h.get? p = some o ∧ o.ExactDict ∧ o.data = .dict es ep ∧ Paired nkRel kas xs ∧ es.toList = xs.map fun x => ⟨nkH x.1, .ref x.2.1, x.2.2⟩
def NkO (kas : List (NestedKey × Addr × V)) (p : Addr) : HO := .ext (NkE kas p)
def NkG (kas : List (NestedKey × Addr × V)) (p : Addr) : Prop := kas.length ≤ sizeLine ∧ (p == sysModules) = false ∧ (kas.map (·.1)).Nodup
/-! ### a value stands for data -/
mutual
inductive Rp (K : Fg) (H : Hp) : V → PyData → Prop
  | non : Rp K H .non .none
  | bl (b : Bool) : Rp K H (.bl b) (.bool b)
  | int (i : Int) : Rp K H (.int i) (.int i)
  | str (x : Str) : Rp K H (.str x) (.str x)
  | lst {a : Addr} {xs : List V} {ds : List PyData} : SqL K H a xs → RpAll K H xs ds → Rp K H (.ref a) (.list ds)
  | tup {a : Addr} {xs : List V} {ds : List PyData} : H a = some (.tup xs) → RpAll K H xs ds → Rp K H (.ref a) (.tuple ds)
  | dct {a : Addr} {ws : List (L2.Key × V)} {es : List (PyData × PyData)} : H a = some (.dK ws) → RpKv K H ws es → Rp K H (.ref a) (.dict es)
  | dctT {a : Addr} {od : Obj} {ws : List (List L2.Key × V)} {es : List (PyData × PyData)} : H a = some (.frz od (.dT ws)) → RpKt K H ws es → Rp K H (.ref a) (.dict (tagT :: es))
  | dctN {a : Addr} {od : Obj} {kas : List (NestedKey × Addr × V)} {es : List (PyData × PyData)} : H a = some (.frz od (NkO kas a)) → NkG kas a → RpKn K H kas es → Rp K H (.ref a) (.dict (tagN :: es))
  | dctF {a : Addr} {od : Obj} {ws : List (L2.Key × V)} {es : List (PyData × PyData)} : H a = some (.frz od (.dK ws)) → RpKv K H ws es → Rp K H (.ref a) (.dict (tagF :: es))
inductive RpAll (K : Fg) (H : Hp) : List V → List PyData → Prop
  | nil : RpAll K H [] []
  | cons {v : V} {vs : List V} {d : PyData} {ds : List PyData} : Rp K H v d → RpAll K H vs ds → RpAll K H (v :: vs) (d :: ds)
inductive RpKv (K : Fg) (H : Hp) : List (L2.Key × V) → List (PyData × PyData) → Prop
  | nil : RpKv K H [] []
  | cons {k : L2.Key} {v : V} {ws : List (L2.Key × V)} {d : PyData} {es : List (PyData × PyData)} : Rp K H v d → RpKv K H ws es → RpKv K H ((k, v) :: ws) ((kD k, d) :: es)
inductive RpKt (K : Fg) (H : Hp) : List (List L2.Key × V) → List (PyData × PyData) → Prop
  | nil : RpKt K H [] []
  | cons {k : List L2.Key} {v : V} {ws : List (List L2.Key × V)} {d : PyData} {es : List (PyData × PyData)} : Rp K H v d → RpKt K H ws es → RpKt K H ((k, v) :: ws) ((tupK k, d) :: es)
inductive RpKn (K : Fg) (H : Hp) : List (NestedKey × Addr × V) → List (PyData × PyData) → Prop
  | nil : RpKn K H [] []
  | cons {k : NestedKey} {b : Addr} {v : V} {kas : List (NestedKey × Addr × V)} {x d : PyData} {es : List (PyData × PyData)} : k.data = x → nkPlain k = true → k.depth ≤ 8 → Rp K H (.ref b) x → Rp K H v d → RpKn K H kas es → RpKn K H ((k, b, v) :: kas) ((x, d) :: es)
end
section
variable {K : Fg} {G H : Hp}
mutual
theorem Rp.mono (e : Same G H) : ∀ (d : PyData) (v : V), Rp K G v d → Rp K H v d
  | .none, _, h => by cases h; exact .non
  | .bool _, _, h => by cases h; exact .bl _
  | .int _, _, h => by cases h; exact .int _
  | .str _, _, h => by cases h; exact .str _
  | .list ds, _, h => by
    cases h with
    | lst hs ha => exact .lst (e.seq hs) (RpAll.mono e ds _ ha)
  | .tuple ds, _, h => by
    cases h with
    | tup hs ha => exact .tup (e _ _ hs) (RpAll.mono e ds _ ha)
  | .dict es, _, h => by
    cases h with
    | dct hs ha => exact .dct (e _ _ hs) (RpKv.mono e es _ ha)
    | dctT hs ha => exact .dctT (e _ _ hs) (RpKt.mono e _ _ ha)
    | dctN hs g ha => exact .dctN (e _ _ hs) g (RpKn.mono e _ _ ha)
    | dctF hs ha => exact .dctF (e _ _ hs) (RpKv.mono e _ _ ha)
theorem RpAll.mono (e : Same G H) : ∀ (ds : List PyData) (vs : List V), RpAll K G vs ds → RpAll K H vs ds
  | [], _, h => by cases h; exact .nil
  | d :: ds, _, h => by
    cases h with
    | cons h1 h2 => exact .cons (Rp.mono e d _ h1) (RpAll.mono e ds _ h2)
theorem RpKv.mono (e : Same G H) : ∀ (es : List (PyData × PyData)) (ws : List (L2.Key × V)), RpKv K G ws es → RpKv K H ws es
  | [], _, h => by cases h; exact .nil
  | (_, d) :: es, _, h => by
    cases h with
    | cons h1 h2 => exact .cons (Rp.mono e d _ h1) (RpKv.mono e es _ h2)
theorem RpKt.mono (e : Same G H) : ∀ (es : List (PyData × PyData)) (ws : List (List L2.Key × V)), RpKt K G ws es → RpKt K H ws es
  | [], _, h => by cases h; exact .nil
  | (_, d) :: es, _, h => by
    cases h with
    | cons h1 h2 => exact .cons (Rp.mono e d _ h1) (RpKt.mono e es _ h2)
theorem RpKn.mono (e : Same G H) : ∀ (es : List (PyData × PyData)) (ws : List (NestedKey × Addr × V)), RpKn K G ws es → RpKn K H ws es
  | [], _, h => by cases h; exact .nil
  | (x, d) :: es, _, h => by
    cases h with
    | cons q1 q2 q3 h0 h1 h2 => exact .cons q1 q2 q3 (Rp.mono e x _ h0) (Rp.mono e d _ h1) (RpKn.mono e es _ h2)
end
theorem RpAll.length : ∀ {vs : List V} {ds : List PyData}, RpAll K H vs ds → vs.length = ds.length
  | _, _, .nil => rfl
  | _, _, .cons _ t => congrArg (· + 1) t.length
theorem RpAll.get : ∀ {vs : List V} {ds : List PyData} {i : Nat} {d : PyData}, RpAll K H vs ds → ds[i]? = some d → ∃ v, vs[i]? = some v ∧ Rp K H v d
  | _, _, _, _, .nil, e => by simp at e
  | _, _, 0, _, .cons r _, e => by
    simp at e
    subst e
    exact ⟨_, rfl, r⟩
  | _, _, i + 1, d, .cons _ t, e => by
    obtain ⟨v, h1, h2⟩ := RpAll.get (i := i) (d := d) t (by simpa using e)
    exact ⟨v, by simpa using h1, h2⟩
theorem RpAll.append : ∀ {vs ws : List V} {ds es : List PyData}, RpAll K H vs ds → RpAll K H ws es → RpAll K H (vs ++ ws) (ds ++ es)
  | _, _, _, _, .nil, s => s
  | _, _, _, _, .cons r t, s => .cons r (t.append s)
theorem RpAll.set {v : V} {d : PyData} (r : Rp K H v d) : ∀ {vs : List V} {ds : List PyData} (i : Nat), RpAll K H vs ds → RpAll K H (vs.set i v) (ds.set i d)
  | _, _, _, .nil => .nil
  | _, _, 0, .cons _ t => .cons r t
  | _, _, i + 1, .cons q t => .cons q (RpAll.set r i t)
theorem RpAll.take : ∀ {vs : List V} {ds : List PyData} (n : Nat), RpAll K H vs ds → RpAll K H (vs.take n) (ds.take n)
  | _, _, 0, _ => .nil
  | _, _, _ + 1, .nil => .nil
  | _, _, n + 1, .cons r t => .cons r (t.take n)
theorem RpAll.drop : ∀ {vs : List V} {ds : List PyData} (n : Nat), RpAll K H vs ds → RpAll K H (vs.drop n) (ds.drop n)
  | _, _, 0, r => r
  | _, _, _ + 1, .nil => .nil
  | _, _, n + 1, .cons _ t => t.drop n
theorem RpAll.reverse : ∀ {vs : List V} {ds : List PyData}, RpAll K H vs ds → RpAll K H vs.reverse ds.reverse
  | _, _, .nil => .nil
  | _, _, .cons r t => by
    rw [List.reverse_cons, List.reverse_cons]
    exact t.reverse.append (.cons r .nil)
end
/-! ### cells, slots, states -/
/-- an element of a list or a tuple that holds cells too; a field of an object -/
inductive E0 where
  | d (x : D)
  | c (k : Nat)
/-- data, a cell, a tuple of data and cells -/
inductive El where
  | d (x : D)
  | c (k : Nat)
  | p (es : List E0)
/-- other objects that change, and what they hold: a dict whose keys are tuples of tuples; an instance of a class, its fields data or cells; a dict that is walked; a dict by texts, its values data or cells -/
inductive GX where
  | n (kvs : List (NestedKey × D))
  | o (C : String) (fs : List (Str × El))
  | kl (kvs : List (L2.Key × D))
  | w (fs : List (Str × El))
/-- what a mutable object holds; gone: it became data -/
inductive Cell where
  | l (ds : List D)
  | k (kvs : List (L2.Key × D))
  | t (kvs : List (List L2.Key × D))
  | r (ks : List (List L2.Key))
  | i (n j : Nat) (ds : List D)
  | g (x : GX)
  | gone
/-- a name's slot: without value (or forgotten), data, a cell -/
inductive Sl where
  | u
  | d (x : D)
  | c (n : Nat)
  | x (n : String)
  | f
  | f2
  | t (b : Bool) (es : List El)
structure S where
  v : List Sl
  m : List Cell
/-- a value: data, an object just made that nobody else holds, a cell -/
inductive Rv where
  | d (x : D)
  | new (c : Cell)
  | ref (n : Nat)
  | t (b : Bool) (es : List El)
inductive R (α : Type) where
  | ok (a : α) (s : S)
  | ex (e : String) (s : S)
  | bad
def R.bind {α β : Type} (r : R α) (k : α → S → R β) : R β :=
  match r with
  | .ok a s => k a s
  | .ex e s => .ex e s
  | .bad => .bad
def Res {α : Type} (P : α → S → Prop) (E : String → S → Prop) : R α → Prop
  | .ok a s => P a s
  | .ex e s => E e s
  | .bad => False
theorem Res.bind {α β : Type} {P : β → S → Prop} {E : String → S → Prop} {r : R α} {k : α → S → R β} (h : Res P E (r.bind k)) : Res (fun a s => Res P E (k a s)) E r := by
  cases r <;> exact h
theorem Res.mono {α : Type} {P P' : α → S → Prop} {E E' : String → S → Prop} {r : R α} (h : Res P E r) (hp : ∀ a s, P a s → P' a s) (he : ∀ e s, E e s → E' e s) : Res P' E' r := by
  cases r with
  | ok a s => exact hp a s h
  | ex e s => exact he e s h
  | bad => exact h
def KvAll (K : Fg) (G : Hp) {κ : Type} : List (κ × V) → List (κ × D) → Prop := Paired fun (p : κ × V) (q : κ × D) => p.1 = q.1 ∧ Rp K G p.2 q.2
def NkR (K : Fg) (G : Hp) (a : NestedKey × Addr × V) (q : NestedKey × D) : Prop := a.1 = q.1 ∧ nkPlain a.1 = true ∧ a.1.depth ≤ 8 ∧ Rp K G (.ref a.2.1) a.1.data ∧ Rp K G a.2.2 q.2
/-- an object's fields that are data -/
def FdR (K : Fg) (G : Hp) (a : Str × V) (q : Str × El) : Prop := a.1 = q.1 ∧ match q.2 with
  | .d x => Rp K G a.2 x
  | .c _ => True
  | .p _ => False
theorem FdR.mono {K : Fg} {G G' : Hp} {a : Str × V} {q : Str × El} (e : Same G G') (h : FdR K G a q) : FdR K G' a q := by
  obtain ⟨n, q⟩ := q
  refine ⟨h.1, ?_⟩
  cases q with
  | d x => exact Rp.mono e _ _ h.2
  | c _ => trivial
  | p _ => exact h.2.elim
def byT (vs : List (Str × V)) : List (L2.Key × V) := vs.map fun a => (.inr a.1, a.2)
def GOk (K : Fg) (G : Hp) (p : Addr) (o : HO) : GX → Prop
  | .n kvs => ∃ kas, o = NkO kas p ∧ NkG kas p ∧ Paired (NkR K G) kas kvs
  | .o _ fs => ∃ C dx vs, o = .ins C dx vs ∧ Paired (FdR K G) vs fs
  | .kl kvs => ∃ od ws, o = .frz od (.dK ws) ∧ KvAll K G ws kvs
  | .w fs => ∃ vs, o = .dK (byT vs) ∧ Paired (FdR K G) vs fs
theorem GOk.mono {K : Fg} {G G' : Hp} {p : Addr} {o : HO} {x : GX} (e : Same G G') (h : GOk K G p o x) : GOk K G' p o x := by
  cases x with
  | n kvs =>
    obtain ⟨kas, h1, h2, h3⟩ := h
    exact ⟨kas, h1, h2, Paired.mapP h3 fun a q z => ⟨z.1, z.2.1, z.2.2.1, Rp.mono e _ _ z.2.2.2.1, Rp.mono e _ _ z.2.2.2.2⟩⟩
  | o C fs =>
    obtain ⟨C, dx, vs, h1, h2⟩ := h
    exact ⟨C, dx, vs, h1, Paired.mapP h2 fun a q z => z.mono e⟩
  | kl kvs =>
    obtain ⟨od, ws, h1, h2⟩ := h
    exact ⟨od, ws, h1, Paired.mapP h2 fun a b z => ⟨z.1, z.2.mono e⟩⟩
  | w fs =>
    obtain ⟨vs, h1, h2⟩ := h
    exact ⟨vs, h1, Paired.mapP h2 fun a q z => z.mono e⟩
def COk (K : Fg) (G H : Hp) (p : Addr) : Cell → Prop
  | .l ds => G p = none ∧ ∃ vs, H p = some (.lst vs) ∧ RpAll K G vs ds
  | .k kvs => G p = none ∧ ∃ ws, H p = some (.dK ws) ∧ KvAll K G ws kvs
  | .t kvs => G p = none ∧ ∃ ws, H p = some (.dT ws) ∧ KvAll K G ws kvs
  | .r ks => G p = none ∧ ∃ ws : List (List L2.Key × V), H p = some (.dT ws) ∧ ws.map (·.1) = ks
  | .i _ _ ds => G p = none ∧ ∃ vs, H p = some (.lst vs) ∧ RpAll K G vs ds
  | .g x => G p = none ∧ ∃ o, H p = some o ∧ GOk K G p o x
  | .gone => ∃ o, G p = some o
/-- a tuple or a list that never changes, some elements data, some cells -/
def outB : Bool → List V → HO
  | true, vs => .tup vs
  | false, vs => .lst vs
def E0Ok (K : Fg) (G : Hp) (r : List Addr) (v : V) : E0 → Prop
  | .d x => Rp K G v x
  | .c k => ∃ p, v = .ref p ∧ r[k]? = some p
theorem E0Ok.mono {K : Fg} {G G' : Hp} {r r' : List Addr} {v : V} {e : E0} (g : Same G G') (hr : ∀ (k : Nat) (p : Addr), r[k]? = some p → r'[k]? = some p) (h : E0Ok K G r v e) : E0Ok K G' r' v e := by
  cases e with
  | d y => exact Rp.mono g _ _ h
  | c k =>
    obtain ⟨p, e1, e2⟩ := h
    exact ⟨p, e1, hr k p e2⟩
def ElOk (K : Fg) (G : Hp) (r : List Addr) (v : V) : El → Prop
  | .d x => Rp K G v x
  | .c k => ∃ p, v = .ref p ∧ r[k]? = some p
  | .p es => ∃ a vs, v = .ref a ∧ G a = some (.tup vs) ∧ Paired (E0Ok K G r) vs es
theorem elOk_mono {K : Fg} {G G' : Hp} {r r' : List Addr} {v : V} {e : El} (g : Same G G') (hr : ∀ (k : Nat) (p : Addr), r[k]? = some p → r'[k]? = some p) (h : ElOk K G r v e) : ElOk K G' r' v e := by
  cases e with
  | d y => exact Rp.mono g _ _ h
  | c k =>
    obtain ⟨p, e1, e2⟩ := h
    exact ⟨p, e1, hr k p e2⟩
  | p es =>
    obtain ⟨a, vs, e1, e2, e3⟩ := h
    exact ⟨a, vs, e1, g _ _ e2, Paired.mapP e3 fun _ _ q => q.mono g hr⟩
def VtOk (K : Fg) (G : Hp) (r : List Addr) (x : V) (b : Bool) (es : List El) : Prop := ∃ a vs, x = .ref a ∧ G a = some (outB b vs) ∧ Paired (ElOk K G r) vs es
def E0.el : E0 → El
  | .d x => .d x
  | .c k => .c k
theorem E0Ok.el {K : Fg} {G : Hp} {r : List Addr} {v : V} {e : E0} (h : E0Ok K G r v e) : ElOk K G r v e.el := by
  cases e with
  | d x => exact h
  | c k => exact h
theorem paired_el {K : Fg} {G : Hp} {r : List Addr} : ∀ {vs : List V} {es : List E0}, Paired (E0Ok K G r) vs es → Paired (ElOk K G r) vs (es.map E0.el)
  | _, _, .nil => .nil
  | _, _, .cons q t => .cons q.el (paired_el t)
theorem VtOk.mono {K : Fg} {G G' : Hp} {r r' : List Addr} {x : V} {b : Bool} {es : List El} (g : Same G G') (hr : ∀ (k : Nat) (p : Addr), r[k]? = some p → r'[k]? = some p) (h : VtOk K G r x b es) : VtOk K G' r' x b es := by
  obtain ⟨a, vs, e, h1, h2⟩ := h
  exact ⟨a, vs, e, g _ _ h1, Paired.mapP h2 fun v el q => elOk_mono g hr q⟩
/-- the ground (what never changes), the cells' addresses, what others hold, the heap -/
structure Wd where
  G : Hp
  r : List Addr
  F : Addr → Prop
  H : Hp
def NoTb (o : HO) : Prop := ∀ ps, o ≠ .tbl ps
/-- the world went on: the ground grew, what is no cell stands as it stood, cells came -/
structure Le (w w' : Wd) : Prop where
  g : Same w.G w'.G
  k : ∀ a o, w.H a = some o → a ∉ w.r → ∃ o', w'.H a = some o' ∧ (NoTb o → o' = o)
  p : w.r <+: w'.r
  f : ∀ p, p ∈ w'.r → p ∈ w.r ∨ w.H p = none
  s : w'.F = w.F
  z : ∀ a od u, w.H a = some (.frz od u) → w'.H a = some (.frz od u)
theorem Le.kN {w w' : Wd} (a : Le w w') {p : Addr} {o : HO} (e : w.H p = some o) (n : p ∉ w.r) (h : NoTb o) : w'.H p = some o := by
  obtain ⟨o', e1, e2⟩ := a.k p o e n
  rw [e1, e2 h]
theorem Le.kX {w w' : Wd} (a : Le w w') {p : Addr} {o : HO} (e : w.H p = some o) (n : p ∉ w.r) : ∃ o', w'.H p = some o' := by
  obtain ⟨o', e1, _⟩ := a.k p o e n
  exact ⟨o', e1⟩
def NoTG (G : Hp) : Prop := ∀ b o, G b = some o → NoTb o
theorem noTG_upd {G : Hp} {p : Addr} {o : HO} (h : NoTG G) (n : NoTb o) : NoTG (upd G p o) := fun b u e => by
  by_cases hb : b = p
  · subst hb
    rw [upd_same] at e
    cases e
    exact n
  · rw [upd_ne hb] at e
    exact h b u e
theorem noTb_tup {vs : List V} : NoTb (.tup vs) := fun _ z => by cases z
theorem noTb_l {vs : List V} : NoTb (.lst vs) := fun _ z => by cases z
theorem noTb_k {vs : List (L2.Key × V)} : NoTb (.dK vs) := fun _ z => by cases z
theorem noTb_t {vs : List (List L2.Key × V)} : NoTb (.dT vs) := fun _ z => by cases z
theorem Le.refl (w : Wd) : Le w w := ⟨Same.refl _, fun _ _ e _ => ⟨_, e, fun _ => rfl⟩, List.prefix_refl _, fun _ h => .inl h, rfl, fun _ _ _ e => e⟩
theorem Le.trans {w w1 w2 : Wd} (a : Le w w1) (b : Le w1 w2) : Le w w2 where
  g := a.g.trans b.g
  k := fun c o e n => by
    obtain ⟨o1, e1, q1⟩ := a.k c o e n
    obtain ⟨o2, e2, q2⟩ := b.k c o1 e1 fun m => by
      rcases a.f c m with h | h
      · exact n h
      · rw [e] at h; cases h
    exact ⟨o2, e2, fun hn => by
      have := q1 hn
      subst this
      exact q2 hn⟩
  p := a.p.trans b.p
  f := fun c h => by
    rcases b.f c h with h1 | h1
    · exact a.f c h1
    · by_cases hm : c ∈ w.r
      · exact .inl hm
      · right
        cases q : w.H c with
        | none => rfl
        | some o =>
          obtain ⟨_, this, _⟩ := a.k c o q hm
          rw [h1] at this; cases this
  s := b.s.trans a.s
  z := fun c od u e => b.z c od u (a.z c od u e)
theorem Le.cell {w w' : Wd} (a : Le w w') {n : Nat} {p : Addr} (h : w.r[n]? = some p) : w'.r[n]? = some p := by
  obtain ⟨t, e⟩ := a.p
  rw [← e]
  rw [List.getElem?_append_left]
  · exact h
  · exact (List.getElem?_eq_some_iff.mp h).1
theorem Le.mem {w w' : Wd} (a : Le w w') {p : Addr} (h : p ∈ w.r) : p ∈ w'.r := by
  obtain ⟨t, e⟩ := a.p
  rw [← e]
  exact List.mem_append_left _ h
abbrev Wd.f (w : Wd) (F : Addr → Prop) : Wd := ⟨w.G, w.r, F, w.H⟩
theorem Le.ch {w w' : Wd} (a : Le w w') (F : Addr → Prop) : Le (w.f F) (w'.f F) := ⟨a.g, a.k, a.p, a.f, rfl, a.z⟩
/-- an object that stays, where no cell is -/
theorem Le.stays {w w' : Wd} (a : Le w w') {p : Addr} {o : HO} (n : p ∉ w.r) (e : w.H p = some o) (h : NoTb o) : p ∉ w'.r ∧ w'.H p = some o := by
  refine ⟨fun m => ?_, a.kN e n h⟩
  rcases a.f p m with z | z
  · exact n z
  · rw [e] at z
    cases z
/-- the world ahead of all -/
def bot : Wd := ⟨fun _ => none, [], fun _ => False, fun _ => none⟩
theorem Le.bot (w : Wd) : Le bot (w.f bot.F) := ⟨fun _ _ e => (nomatch (show (none : Option HO) = some _ from e)), fun _ _ e _ => (nomatch (show (none : Option HO) = some _ from e)), List.nil_prefix, fun _ _ => .inr rfl, rfl, fun _ _ _ e => (nomatch (show (none : Option HO) = some _ from e))⟩
/-- exceptions by the names of their classes; the tables of code objects of the defs that hold lambdas -/
structure EC where
  f : String → Addr
  T : List (Addr × Str)
  X : List String
  w : Wd
  lf : Addr
  lf2 : Addr
instance : CoeFun EC fun _ => String → Addr := ⟨EC.f⟩
def TabOk (ec : EC) (F : Addr → Prop) (H : Hp) : Prop := ∀ q, q ∈ ec.T → F q.1 ∧ LamX.TabS H q.1 q.2
theorem TabOk.ext {ec : EC} {F : Addr → Prop} {H H' : Hp} (t : TabOk ec F H) (h : ∀ b o, H b = some o → H' b = some o) : TabOk ec F H' := fun q hq => ⟨(t q hq).1, (t q hq).2.ext h⟩
theorem TabOk.back {ec : EC} {F F' : Addr → Prop} {H H' : Hp} (t : TabOk ec F H) (t' : TabOk ec F' H') : TabOk ec F H' := fun q hq => ⟨(t q hq).1, (t' q hq).2⟩
theorem TabOk.f {ec : EC} {F F' : Addr → Prop} {H : Hp} (t : TabOk ec F H) (h : ∀ p, F p → F' p) : TabOk ec F' H := fun q hq => ⟨h _ (t q hq).1, (t q hq).2⟩
/-- an object that is no table and no code object is written -/
theorem TabOk.put {ec : EC} {F : Addr → Prop} {H : Hp} {p : Addr} {o o' : HO} (t : TabOk ec F H) (ho : H p = some o) (h1 : NoTb o) (h2 : ∀ a q, o ≠ LamX.CodeO a q) : TabOk ec F (upd H p o') := fun q hq => by
  obtain ⟨a, ps, e1, e2, e3⟩ := t q hq
  have n1 : q.1 ≠ p := fun z => by
    rw [z, ho] at e1
    exact h1 ps (Option.some.inj e1)
  refine ⟨a, ps, by rw [upd_ne n1]; exact e1, e2, fun pos cv hc => ?_⟩
  obtain ⟨c, e4, e5⟩ := e3 pos cv hc
  have n2 : c ≠ p := fun z => by
    rw [z, ho] at e5
    exact h2 _ _ (Option.some.inj e5)
  exact ⟨c, e4, by rw [upd_ne n2]; exact e5⟩
/-- the lists within a dict of lists stand where the dict says -/
def RfL (w : Wd) (m : List Cell) : Prop := ∀ (t : Nat) (q : Addr) (n j : Nat) (ds : List D), w.r[t]? = some q → m[t]? = some (.i n j ds) → n < t ∧ ∀ (p : Addr) (ks : List (List L2.Key)), w.r[n]? = some p → m[n]? = some (.r ks) → ∃ (ws : List (List L2.Key × V)) (k : List L2.Key), w.H p = some (.dT ws) ∧ ws[j]? = some (k, .ref q)
def NoTup (o : HO) : Prop := ∀ vs, o ≠ .tup vs
/-- what others hold is no tuple -/
def FT (ec : EC) (w : Wd) : Prop := ∀ p, w.F p → p ∈ ec.T.map (·.1) ∨ ∃ o, w.H p = some o ∧ NoTb o ∧ NoTup o
/-- a field that is a cell stands for an earlier one -/
def FdC (r : List Addr) (t : Nat) (a : Str × V) (q : Str × El) : Prop := ∀ k, q.2 = .c k → k < t ∧ ∃ p, a.2 = .ref p ∧ r[k]? = some p
def LkO (ec : EC) (r : List Addr) (t : Nat) (p : Addr) (H : Hp) : GX → Prop
  | .o C fs => ∃ dx vs, H p = some (.ins (ec.f C) dx vs) ∧ Paired (FdC r t) vs fs
  | .w fs => ∃ vs, H p = some (.dK (byT vs)) ∧ Paired (FdC r t) vs fs
  | _ => True
/-- the fields of objects lead to earlier cells -/
def LkL (ec : EC) (w : Wd) (m : List Cell) : Prop := ∀ (t : Nat) (p : Addr) (x : GX), w.r[t]? = some p → m[t]? = some (.g x) → LkO ec w.r t p w.H x
theorem LkO.mono {ec : EC} {r r' : List Addr} {t : Nat} {p : Addr} {H H' : Hp} {x : GX} (h : LkO ec r t p H x) (hr : ∀ (k : Nat) (p : Addr), k < t → r[k]? = some p → r'[k]? = some p) (hh : ∀ o, NoTb o → H p = some o → H' p = some o) : LkO ec r' t p H' x := by
  cases x with
  | n _ => trivial
  | kl _ => trivial
  | o C fs =>
    obtain ⟨dx, vs, h1, h2⟩ := h
    exact ⟨dx, vs, hh _ (fun _ z => by cases z) h1, Paired.mapP h2 fun a q z k e => by
      obtain ⟨h3, p', h4, h5⟩ := z k e
      exact ⟨h3, p', h4, hr k p' h3 h5⟩⟩
  | w fs =>
    obtain ⟨vs, h1, h2⟩ := h
    exact ⟨vs, hh _ (fun _ z => by cases z) h1, Paired.mapP h2 fun a q z k e => by
      obtain ⟨h3, p', h4, h5⟩ := z k e
      exact ⟨h3, p', h4, hr k p' h3 h5⟩⟩
def NV (ec : EC) (w : Wd) (m : List Cell) : Prop := (RfL w m ∧ LkL ec w m) ∧ FT ec w
structure Mem (ec : EC) (K : Fg) (w : Wd) (m : List Cell) : Prop where
  ext : Same w.G w.H
  len : w.r.length = m.length
  nd : w.r.Nodup
  cell : ∀ (n : Nat) (p : Addr) (c : Cell), w.r[n]? = some p → m[n]? = some c → COk K w.G w.H p c
  fo : ∀ p, w.F p → w.G p = none ∧ p ∉ w.r ∧ ∃ o, w.H p = some o
  tab : TabOk ec w.F w.H
  inv : Le ec.w (w.f ec.w.F)
  gt : NoTG w.G
  nv : NV ec w m
/-- a caught exception of the class at C -/
def ExO (a C : Addr) : HO := .ext fun h => ∃ oe, PySem.W.InstAt h a oe C none
theorem noTb_x {a C : Addr} : NoTb (ExO a C) := fun _ z => by
  unfold ExO at z
  cases z
/-- no code object and no caught exception -/
def NoX (o : HO) : Prop := (∀ a q, o ≠ LamX.CodeO a q) ∧ ∀ a C, o ≠ ExO a C
theorem noX_of {o : HO} (h : ∀ f, o ≠ .ext f) : NoX o := ⟨fun a q z => by
    unfold LamX.CodeO at z
    exact h _ z, fun a C z => by
    unfold ExO at z
    exact h _ z⟩
theorem relV_ex (v : V) : ∃ u, RelV v u := by
  cases v <;> first | exact ⟨_, rfl⟩ | exact ⟨_, ⟨0, rfl⟩⟩
theorem nkRel_ex : ∀ kas : List (NestedKey × Addr × V), ∃ xs : List (NestedKey × Addr × Value), Paired nkRel kas xs
  | [] => ⟨[], .nil⟩
  | (k, b, v) :: kas => by
    obtain ⟨u, hu⟩ := relV_ex v
    obtain ⟨xs, hx⟩ := nkRel_ex kas
    exact ⟨(k, b, u) :: xs, .cons ⟨rfl, rfl, hu⟩ hx⟩
theorem nkE_some (kas : List (NestedKey × Addr × V)) (p : Addr) : ∃ h : Heap, NkE kas p h ∧ ∀ a o, h.get? a = some o → o.cls = .type "dict" ∧ ∃ es ep, o.data = .dict es ep := by
  obtain ⟨xs, hx⟩ := nkRel_ex kas
  let es : Array DictEntry := (xs.map fun x => (⟨nkH x.1, .ref x.2.1, x.2.2⟩ : DictEntry)).toArray
  let o : Obj := { cls := .type "dict", data := .dict es 0 }
  let h : Heap := { objs := Array.replicate (p + 1) o }
  have he : ∀ a, h.get? a = if a < p + 1 then some o else none := fun a => by
    have e0 : (Array.replicate (p + 1) o)[a]? = if a < p + 1 then some o else none := Array.getElem?_replicate
    show (match (Array.replicate (p + 1) o)[a]? with
      | some ⟨_, _, .freed, _⟩ => none
      | o => o) = _
    rw [e0]
    by_cases ha : a < p + 1
    · rw [if_pos ha]
    · rw [if_neg ha]
  have hg : ∀ a (u : Obj), h.get? a = some u → u = o := fun a u e => by
    rw [he] at e
    split at e
    · exact (Option.some.inj e).symm
    · cases e
  refine ⟨h, ⟨o, es, 0, xs, ?_, ?_, rfl, hx, ?_⟩, fun a u e => ?_⟩
  · rw [he, if_pos (Nat.lt_succ_self p)]
  · exact ⟨rfl, rfl, rfl⟩
  · simp [es]
  · rw [hg a u e]
    exact ⟨rfl, _, _, rfl⟩
theorem GOk.noX {K : Fg} {G : Hp} {p : Addr} {o : HO} {x : GX} (h : GOk K G p o x) : NoX o := by
  cases x with
  | n kvs =>
    obtain ⟨kas, rfl, _⟩ := h
    obtain ⟨hh, h1, h2⟩ := nkE_some kas p
    refine ⟨fun a q z => ?_, fun a C z => ?_⟩
    · unfold NkO LamX.CodeO at z
      have z := HO.ext.inj z
      rw [z] at h1
      obtain ⟨oc, vs, t, e1, e2, _⟩ := h1
      obtain ⟨_, es, ep, e3⟩ := h2 _ _ e1
      rw [e2] at e3
      cases e3
    · unfold NkO ExO at z
      have z := HO.ext.inj z
      rw [z] at h1
      obtain ⟨oe, e1⟩ := h1
      obtain ⟨e3, _⟩ := h2 _ _ e1.1
      have e4 := e1.2
      rw [e3] at e4
      cases e4
  | o C fs =>
    obtain ⟨C, dx, vs, rfl, _⟩ := h
    exact noX_of fun f z => by cases z
  | kl kvs =>
    obtain ⟨od, ws, rfl, _⟩ := h
    exact noX_of fun f z => by cases z
  | w fs =>
    obtain ⟨vs, rfl, _⟩ := h
    exact noX_of fun f z => by cases z
theorem GOk.ntb {K : Fg} {G : Hp} {p : Addr} {o : HO} {x : GX} (h : GOk K G p o x) : NoTb o := by
  cases x with
  | n kvs =>
    obtain ⟨kas, rfl, _⟩ := h
    exact fun _ z => by unfold NkO at z; cases z
  | o C fs =>
    obtain ⟨C, dx, vs, rfl, _⟩ := h
    exact fun _ z => by cases z
  | kl kvs =>
    obtain ⟨od, ws, rfl, _⟩ := h
    exact fun _ z => by cases z
  | w fs =>
    obtain ⟨vs, rfl, _⟩ := h
    exact fun _ z => by cases z
theorem GOk.ntup {K : Fg} {G : Hp} {p : Addr} {o : HO} {x : GX} (h : GOk K G p o x) : NoTup o := by
  cases x with
  | n kvs =>
    obtain ⟨kas, rfl, _⟩ := h
    exact fun _ z => by unfold NkO at z; cases z
  | o C fs =>
    obtain ⟨C, dx, vs, rfl, _⟩ := h
    exact fun _ z => by cases z
  | kl kvs =>
    obtain ⟨od, ws, rfl, _⟩ := h
    exact fun _ z => by cases z
  | w fs =>
    obtain ⟨vs, rfl, _⟩ := h
    exact fun _ z => by cases z
def SlOk (ec : EC) (K : Fg) (w : Wd) (y : Option (Option V)) : Sl → Prop
  | .u => True
  | .d x => ∃ v, y = some (some v) ∧ Rp K w.G v x
  | .c n => ∃ p, y = some (some (.ref p)) ∧ w.r[n]? = some p
  | .x n => n ∈ ec.X ∧ ∃ a, y = some (some (.ref a)) ∧ a ∉ w.r ∧ w.H a = some (ExO a (ec.f n))
  | .f => y = some (some (.ref ec.lf))
  | .f2 => y = some (some (.ref ec.lf2))
  | .t b es => ∃ v, y = some (some v) ∧ VtOk K w.G w.r v b es
structure Rel (ec : EC) (K : Fg) (w : Wd) (σ : St) (s : S) : Prop where
  mem : Mem ec K w s.m
  len : σ.length = s.v.length
  slot : ∀ (i : Nat) (sl : Sl), s.v[i]? = some sl → SlOk ec K w σ[i]? sl
def RvOk (K : Fg) (w : Wd) (x : V) : Rv → Prop
  | .d d => Rp K w.G x d
  | .new c => ∃ p, x = .ref p ∧ (p ∉ w.r ∧ ¬ w.F p) ∧ COk K w.G w.H p c
  | .ref n => ∃ p, x = .ref p ∧ w.r[n]? = some p
  | .t b es => VtOk K w.G w.r x b es
theorem slOk_mono {ec : EC} {K : Fg} {w w' : Wd} (a : Le w w') {y : Option (Option V)} {sl : Sl} (h : SlOk ec K w y sl) : SlOk ec K w' y sl := by
  cases sl with
  | u => trivial
  | d x =>
    obtain ⟨v, e, r⟩ := h
    exact ⟨v, e, r.mono a.g⟩
  | c n =>
    obtain ⟨p, e, r⟩ := h
    exact ⟨p, e, a.cell r⟩
  | x n =>
    obtain ⟨q, b, e, r, z⟩ := h
    obtain ⟨r', z'⟩ := a.stays r z noTb_x
    exact ⟨q, b, e, r', z'⟩
  | f => exact h
  | f2 => exact h
  | t b es =>
    obtain ⟨v, e, z⟩ := h
    exact ⟨v, e, z.mono a.g fun k p q => a.cell q⟩
/-! ### the readings -/
/-- an object just made was not there ahead -/
def FrR (w : Wd) (x : V) (rv : Rv) : Prop := ∀ c, rv = .new c → ∀ p, x = .ref p → w.H p = none
theorem FrR.d {w : Wd} {x : V} {d : D} : FrR w x (.d d) := fun _ e => by cases e
theorem FrR.ref {w : Wd} {x : V} {n : Nat} : FrR w x (.ref n) := fun _ e => by cases e
theorem FrR.t {w : Wd} {x : V} {b : Bool} {es : List El} : FrR w x (.t b es) := fun _ e => by cases e
/-- fresh later is fresh earlier -/
theorem FrR.back {K : Fg} {w w1 w' : Wd} {x : V} {rv : Rv} (a : Le w w1) (b : Le w1 w') (hr : RvOk K w' x rv) (h : FrR w1 x rv) : FrR w x rv := fun c e p ex => by
  have h1 := h c e p ex
  subst e
  obtain ⟨q, eq, ⟨hq, _⟩, _⟩ := hr
  rw [ex] at eq
  cases eq
  cases hh : w.H p with
  | none => rfl
  | some o =>
    obtain ⟨_, this, _⟩ := a.k p o hh fun m => hq (b.mem (a.mem m))
    rw [h1] at this
    cases this
def okV (ec : EC) (K : Fg) (w : Wd) (σ : St) (Q : VK) : Rv → S → Prop := fun rv s' => ∀ x w', Le w w' → Rel ec K w' σ s' → RvOk K w' x rv → FrR w x rv → Q x w'.H
abbrev CE := S → R Rv
abbrev CT := S → R Bool
def rd (K : Fg) (ec : EC) (W : WX) (c : CE) : TE := fun σ H Q => ∃ w s, w.H = H ∧ Rel ec K w σ s ∧ Res (okV ec K w σ Q) (fun e s' => ∀ w', Le w w' → Rel ec K w' σ s' → W (.ref (ec e)) none σ w'.H) (c s)
def rdT (K : Fg) (ec : EC) (W : WX) (c : CT) : TT := fun σ H Q => ∃ w s, w.H = H ∧ Rel ec K w σ s ∧ Res (fun b s' => ∀ w', Le w w' → Rel ec K w' σ s' → Q b w'.H) (fun e s' => ∀ w', Le w w' → Rel ec K w' σ s' → W (.ref (ec e)) none σ w'.H) (c s)
/-- what is wanted of an exception out of an expression -/
abbrev okE (K : Fg) (ec : EC) (W : WX) (σ : St) (w : Wd) : String → S → Prop := fun e s' => ∀ w', Le w w' → Rel ec K w' σ s' → W (.ref (ec e)) none σ w'.H
/-! ### weakening -/
theorem _root_.L2.PE.imp {X : Cx} {e : Expr} {t t' : TE} (h : PE X e t) (i : ∀ σ H Q, t' σ H Q → t σ H Q) : PE X e t' := ⟨fun pins s σ H Q I q => h.run pins s σ H Q I (i _ _ _ q)⟩
theorem _root_.L2.PT.imp {X : Cx} {e : Expr} {t t' : TT} (h : PT X e t) (i : ∀ σ H Q, t' σ H Q → t σ H Q) : PT X e t' := ⟨fun pins s σ H Q I q => h.run pins s σ H Q I (i _ _ _ q)⟩
theorem _root_.L2.PS.imp {X : Cx} {e : Stmt} {t t' : TS} (h : PS X e t) (i : ∀ D σ H, t' D σ H → t D σ H) : PS X e t' := ⟨fun pins s σ H D I q => h.run pins s σ H D I (i _ _ _ q)⟩
theorem _root_.L2.PSs.imp {X : Cx} {e : List Stmt} {t t' : TS} (h : PSs X e t) (i : ∀ D σ H, t' D σ H → t D σ H) : PSs X e t' := ⟨fun pins s σ H D I q => h.run pins s σ H D I (i _ _ _ q)⟩
/-! ### an object just made becomes data -/
def Cell.D? : Cell → Option D
  | .l ds => some (.list ds)
  | .k kvs => some (.dict (kvs.map fun p => (kD p.1, p.2)))
  | _ => none
theorem rpKv_of {K : Fg} {G : Hp} : ∀ {ws : List (L2.Key × V)} {kvs : List (L2.Key × D)}, KvAll K G ws kvs → RpKv K G ws (kvs.map fun p => (kD p.1, p.2))
  | _, _, .nil => .nil
  | (k, v) :: ws, (k', d) :: kvs, .cons r t => by
    obtain ⟨e, r⟩ := r
    have e : k = k' := e
    subst e
    exact .cons r (rpKv_of t)
theorem cOk_mono {K : Fg} {G G' H H' : Hp} {p : Addr} {c : Cell} (g : Same G G') (hp : c ≠ .gone → G' p = none) (h : ∀ o, c ≠ .gone → H p = some o → H' p = some o) (r : COk K G H p c) : COk K G' H' p c := by
  cases c with
  | l ds =>
    obtain ⟨_, vs, e, q⟩ := r
    exact ⟨hp (by intro z; cases z), vs, h _ (by intro z; cases z) e, q.mono g⟩
  | k kvs =>
    obtain ⟨_, vs, e, q⟩ := r
    exact ⟨hp (by intro z; cases z), vs, h _ (by intro z; cases z) e, Paired.mapP q fun a b z => ⟨z.1, z.2.mono g⟩⟩
  | t kvs =>
    obtain ⟨_, vs, e, q⟩ := r
    exact ⟨hp (by intro z; cases z), vs, h _ (by intro z; cases z) e, Paired.mapP q fun a b z => ⟨z.1, z.2.mono g⟩⟩
  | r ks =>
    obtain ⟨_, vs, e, q⟩ := r
    exact ⟨hp (by intro z; cases z), vs, h _ (by intro z; cases z) e, q⟩
  | i n j ds =>
    obtain ⟨_, vs, e, q⟩ := r
    exact ⟨hp (by intro z; cases z), vs, h _ (by intro z; cases z) e, q.mono g⟩
  | g x =>
    obtain ⟨_, o, e, q⟩ := r
    exact ⟨hp (by intro z; cases z), o, h _ (by intro z; cases z) e, q.mono g⟩
  | gone =>
    obtain ⟨o, e⟩ := r
    exact ⟨o, g _ _ e⟩
/-- the ground takes p in -/
theorem ground_in {ec : EC} {K : Fg} {w : Wd} {σ : St} {s : S} {p : Addr} {o : HO} (r : Rel ec K w σ s) (hp : p ∉ w.r ∧ ¬ w.F p) (hg : w.G p = none) (hh : w.H p = some o) (nb : NoTb o) :
    Rel ec K ⟨upd w.G p o, w.r, w.F, w.H⟩ σ s ∧ Le w ⟨upd w.G p o, w.r, w.F, w.H⟩ := by
  have sg : Same w.G (upd w.G p o) := fun b u e => by
    rw [upd_ne (ne_of_none e hg)]
    exact e
  have le : Le w ⟨upd w.G p o, w.r, w.F, w.H⟩ := ⟨sg, fun _ _ e _ => ⟨_, e, fun _ => rfl⟩, List.prefix_refl _, fun _ h => .inl h, rfl, fun _ _ _ e => e⟩
  refine ⟨⟨⟨fun b u e => ?_, r.mem.len, r.mem.nd, fun n q c h1 h2 => ?_, fun q hq => ?_, r.mem.tab, r.mem.inv.trans (le.ch _), noTG_upd r.mem.gt nb, r.mem.nv⟩, r.len, fun i sl h => slOk_mono le (r.slot i sl h)⟩, le⟩
  · by_cases hb : b = p
    · subst hb
      have e : upd w.G b o b = some u := e
      rw [upd_same] at e
      cases e
      exact hh
    · have e : upd w.G p o b = some u := e
      rw [upd_ne hb] at e
      exact r.mem.ext b u e
  · have hq : q ≠ p := fun z => hp.1 (z ▸ List.mem_of_getElem? h1)
    have c0 := r.mem.cell n q c h1 h2
    refine cOk_mono sg (fun hc => ?_) (fun _ _ e => e) c0
    show upd w.G p o q = none
    rw [upd_ne hq]
    cases c with
    | l ds => exact c0.1
    | k kvs => exact c0.1
    | t kvs => exact c0.1
    | r ks => exact c0.1
    | i n j ds => exact c0.1
    | g x => exact c0.1
    | gone => exact absurd rfl hc
  · obtain ⟨h1, h2⟩ := r.mem.fo q hq
    refine ⟨?_, h2⟩
    show upd w.G p o q = none
    have hne : q ≠ p := by
      intro z
      subst z
      exact hp.2 hq
    rw [upd_ne hne]
    exact h1
def Rv.D? : Rv → Option D
  | .d x => some x
  | .new c => c.D?
  | .ref _ => none
  | .t _ _ => none
theorem freeze {ec : EC} {K : Fg} {w : Wd} {σ : St} {s : S} {x : V} {rv : Rv} {d : D} (r : Rel ec K w σ s) (h : RvOk K w x rv) (e : rv.D? = some d) :
    ∃ G', Rel ec K ⟨G', w.r, w.F, w.H⟩ σ s ∧ Le w ⟨G', w.r, w.F, w.H⟩ ∧ Rp K G' x d := by
  cases rv with
  | d y =>
    cases e
    exact ⟨w.G, r, Le.refl w, h⟩
  | ref n => cases e
  | t b es => cases e
  | new c =>
    obtain ⟨p, rfl, hp, hc⟩ := h
    cases c with
    | l ds =>
      cases e
      obtain ⟨hg, vs, hv, ra⟩ := hc
      obtain ⟨r', le⟩ := ground_in r hp hg hv noTb_l
      exact ⟨_, r', le, .lst (SqL.of upd_same) (ra.mono le.g)⟩
    | k kvs =>
      cases e
      obtain ⟨hg, vs, hv, ra⟩ := hc
      obtain ⟨r', le⟩ := ground_in r hp hg hv noTb_k
      exact ⟨_, r', le, .dct upd_same ((rpKv_of ra).mono le.g)⟩
    | t kvs => cases e
    | r ks => cases e
    | i n j ds => cases e
    | g x => cases e
    | gone => cases e
end Vm
namespace Vm
open PySem L2
/-! ### operands -/
/-- what an operand is when the operation comes: data (a cell's list too), or a cell's dict -/
inductive Od where
  | d (x : D)
  | c (c : Cell)
def Rv.od (m : List Cell) : Rv → Option Od
  | .d x => some (.d x)
  | .new _ => none
  | .t _ _ => none
  | .ref n => match m[n]? with
    | some (.l ds) => some (.d (.list ds))
    | some (.k kvs) => some (.c (.k kvs))
    | some (.t kvs) => some (.c (.t kvs))
    | some (.r ks) => some (.c (.r ks))
    | some (.g x) => some (.c (.g x))
    | _ => none
def OdOk (K : Fg) (w : Wd) (x : V) : Od → Prop
  | .d d => Rp K w.G x d ∨ ∃ p vs ds, x = .ref p ∧ d = .list ds ∧ w.H p = some (.lst vs) ∧ RpAll K w.G vs ds
  | .c c => ∃ p, x = .ref p ∧ COk K w.G w.H p c ∧ p ∈ w.r
/-- an expression's value, an object just made become data -/
def cv (c : CE) : CE := fun s => (c s).bind fun rv s1 => match rv with
  | .new c => match c.D? with
    | some d => .ok (.d d) s1
    | none => .bad
  | rv => .ok rv s1
def opt {α β : Type} (o : Option α) (k : α → R β) : R β := match o with
  | some a => k a
  | none => .bad
def cOp1 (f : Od → Option Rv) (a : CE) : CE := fun s => (cv a s).bind fun x s1 => opt (x.od s1.m) fun o => opt (f o) fun rv => .ok rv s1
def cOp2 (f : Od → Od → Option Rv) (a b : CE) : CE := fun s => (cv a s).bind fun x s1 => (cv b s1).bind fun y s2 => opt (x.od s2.m) fun o => opt (y.od s2.m) fun o' => opt (f o o') fun rv => .ok rv s2
theorem Res.opt {α β : Type} {P : β → S → Prop} {E : String → S → Prop} {o : Option α} {k : α → R β} (h : Res P E (opt o k)) : ∃ a, o = some a ∧ Res P E (k a) := by
  cases o with
  | none => exact h.elim
  | some a => exact ⟨a, rfl, h⟩
section
variable {K : Fg} {ec : EC} {W : WX} {σ : St} {w w1 : Wd} {Q : VK} {s : S}
/-- what is wanted of a run from w on -/
abbrev FinV (K : Fg) (ec : EC) (W : WX) (σ : St) (Q : VK) (w : Wd) (r : R Rv) : Prop := Res (okV ec K w σ Q) (okE K ec W σ w) r
abbrev FinT (K : Fg) (ec : EC) (W : WX) (σ : St) (Q : Bool → Hp → Prop) (w : Wd) (r : R Bool) : Prop := Res (fun b s' => ∀ w', Le w w' → Rel ec K w' σ s' → Q b w'.H) (okE K ec W σ w) r
theorem okE_le (a : Le w w1) {e : String} {s' : S} (h : okE K ec W σ w e s') : okE K ec W σ w1 e s' := fun w' b r => h w' (a.trans b) r
theorem FinV.le {r : R Rv} (a : Le w w1) (h : FinV K ec W σ Q w r) : FinV K ec W σ Q w1 r := Res.mono h (fun rv s' q x w' b r o f => q x w' (a.trans b) r o (f.back a b o)) fun e s' q => okE_le a q
theorem FinT.le {Q : Bool → Hp → Prop} {r : R Bool} (a : Le w w1) (h : FinT K ec W σ Q w r) : FinT K ec W σ Q w1 r := Res.mono h (fun rv s' q w' b => q w' (a.trans b)) fun e s' q => okE_le a q
/-- an argument runs, then the rest -/
theorem run_cv {α : Type} {c : CE} {k : Rv → S → R α} {P : α → S → Prop} (hr : Rel ec K w σ s) (h : Res P (okE K ec W σ w) ((cv c s).bind k))
    (hk : ∀ x w1 s1 a, Le w w1 → Rel ec K w1 σ s1 → RvOk K w1 x a → (∀ c, a ≠ .new c) → Res P (okE K ec W σ w) (k a s1) → Q x w1.H) : rd K ec W c σ w.H Q := by
  refine ⟨w, s, rfl, hr, ?_⟩
  unfold cv at h
  cases e : c s with
  | bad =>
    rw [e] at h
    exact h
  | ex n s' =>
    rw [e] at h
    exact h
  | ok rv s' =>
    rw [e] at h
    intro x w' le r' ok _
    cases rv with
    | d y => exact hk x w' s' (.d y) le r' ok (by intro c z; cases z) h
    | ref n => exact hk x w' s' (.ref n) le r' ok (by intro c z; cases z) h
    | t b es => exact hk x w' s' (.t b es) le r' ok (by intro c z; cases z) h
    | new cc =>
      cases ed : cc.D? with
      | none =>
        simp only [R.bind, ed] at h
        exact h.elim
      | some d =>
        simp only [R.bind, ed] at h
        obtain ⟨G', r2, le2, rp⟩ := freeze r' ok (d := d) ed
        exact hk x ⟨G', w'.r, w'.F, w'.H⟩ s' (.d d) (le.trans le2) r2 rp (by intro c z; cases z) h
theorem RvOk.le {x : V} {a : Rv} (hn : ∀ c, a ≠ .new c) (le : Le w w1) (h : RvOk K w x a) : RvOk K w1 x a := by
  cases a with
  | d y => exact Rp.mono le.g _ _ h
  | ref n =>
    obtain ⟨p, e, q⟩ := h
    exact ⟨p, e, le.cell q⟩
  | t b es => exact h.mono le.g fun k p q => le.cell q
  | new c => exact absurd rfl (hn c)
theorem od_of {x : V} {a : Rv} {o : Od} (hr : Rel ec K w σ s) (h : RvOk K w x a) (e : a.od s.m = some o) : OdOk K w x o := by
  cases a with
  | d y =>
    cases e
    exact .inl h
  | new c => cases e
  | t b es => cases e
  | ref n =>
    obtain ⟨p, rfl, q⟩ := h
    unfold Rv.od at e
    dsimp only at e
    split at e
    · rename_i ds hc
      cases e
      obtain ⟨hg, vs, hv, ra⟩ := hr.mem.cell n p _ q hc
      exact .inr ⟨p, vs, ds, rfl, rfl, hv, ra⟩
    · rename_i kvs hc
      cases e
      exact ⟨p, rfl, hr.mem.cell n p _ q hc, List.mem_of_getElem? q⟩
    · rename_i kvs hc
      cases e
      exact ⟨p, rfl, hr.mem.cell n p _ q hc, List.mem_of_getElem? q⟩
    · rename_i kvs hc
      cases e
      exact ⟨p, rfl, hr.mem.cell n p _ q hc, List.mem_of_getElem? q⟩
    · rename_i x hc
      cases e
      exact ⟨p, rfl, hr.mem.cell n p _ q hc, List.mem_of_getElem? q⟩
    · cases e
/-! ### what an operation leaves -/
/-- the world grew by new objects alone -/
structure Gr (w w' : Wd) : Prop where
  r : w'.r = w.r
  f : w'.F = w.F
  g : Same w.G w'.G
  h : Same w.H w'.H
  e : Same w.G w.H → Same w'.G w'.H
  n : ∀ p o, w.H p = some o → NoTup o → w.G p = none → w'.G p = none
  t : NoTG w.G → NoTG w'.G
theorem Gr.refl (w : Wd) : Gr w w := ⟨rfl, rfl, Same.refl _, Same.refl _, fun h => h, fun _ _ _ _ h => h, fun h => h⟩
theorem Rel.live (r : Rel ec K w σ s) {p : Addr} (h : p ∈ w.r) : ∃ o, w.H p = some o := by
  obtain ⟨n, e⟩ := List.getElem?_of_mem h
  have hn : n < s.m.length := by
    rw [← r.mem.len]
    exact (List.getElem?_eq_some_iff.mp e).1
  have c := r.mem.cell n p _ e (List.getElem?_eq_getElem hn)
  cases q : s.m[n] with
  | l ds =>
    rw [q] at c
    obtain ⟨_, vs, hv, _⟩ := c
    exact ⟨_, hv⟩
  | k ds =>
    rw [q] at c
    obtain ⟨_, vs, hv, _⟩ := c
    exact ⟨_, hv⟩
  | t ds =>
    rw [q] at c
    obtain ⟨_, vs, hv, _⟩ := c
    exact ⟨_, hv⟩
  | r ds =>
    rw [q] at c
    obtain ⟨_, vs, hv, _⟩ := c
    exact ⟨_, hv⟩
  | i n' j' ds =>
    rw [q] at c
    obtain ⟨_, vs, hv, _⟩ := c
    exact ⟨_, hv⟩
  | g x =>
    rw [q] at c
    obtain ⟨_, o, hv, _⟩ := c
    exact ⟨_, hv⟩
  | gone =>
    rw [q] at c
    obtain ⟨o, e⟩ := c
    exact ⟨o, r.mem.ext _ _ e⟩
theorem Rel.liveN (r : Rel ec K w σ s) {n : Nat} {p : Addr} (e : w.r[n]? = some p) (hg : w.G p = none) : ∃ o, w.H p = some o ∧ NoTb o ∧ NoX o := by
  have hn : n < s.m.length := by
    rw [← r.mem.len]
    exact (List.getElem?_eq_some_iff.mp e).1
  have c := r.mem.cell n p _ e (List.getElem?_eq_getElem hn)
  cases q : s.m[n] with
  | l ds =>
    rw [q] at c
    obtain ⟨_, vs, hv, _⟩ := c
    exact ⟨_, hv, noTb_l, noX_of fun f z => by cases z⟩
  | k ds =>
    rw [q] at c
    obtain ⟨_, vs, hv, _⟩ := c
    exact ⟨_, hv, noTb_k, noX_of fun f z => by cases z⟩
  | t ds =>
    rw [q] at c
    obtain ⟨_, vs, hv, _⟩ := c
    exact ⟨_, hv, noTb_t, noX_of fun f z => by cases z⟩
  | r ds =>
    rw [q] at c
    obtain ⟨_, vs, hv, _⟩ := c
    exact ⟨_, hv, noTb_t, noX_of fun f z => by cases z⟩
  | i n' j' ds =>
    rw [q] at c
    obtain ⟨_, vs, hv, _⟩ := c
    exact ⟨_, hv, noTb_l, noX_of fun f z => by cases z⟩
  | g x =>
    rw [q] at c
    obtain ⟨_, o, hv, q1⟩ := c
    exact ⟨_, hv, q1.ntb, q1.noX⟩
  | gone =>
    rw [q] at c
    obtain ⟨o, e⟩ := c
    rw [hg] at e
    cases e
theorem Rel.liveT (r : Rel ec K w σ s) {n : Nat} {p : Addr} (e : w.r[n]? = some p) (hg : w.G p = none) : ∃ o, w.H p = some o ∧ NoTb o ∧ NoTup o := by
  have hn : n < s.m.length := by
    rw [← r.mem.len]
    exact (List.getElem?_eq_some_iff.mp e).1
  have c := r.mem.cell n p _ e (List.getElem?_eq_getElem hn)
  cases q : s.m[n] with
  | gone =>
    rw [q] at c
    obtain ⟨o, e⟩ := c
    rw [hg] at e
    cases e
  | l ds =>
    rw [q] at c
    obtain ⟨_, vs, hv, _⟩ := c
    exact ⟨_, hv, noTb_l, fun f z => by cases z⟩
  | k ds =>
    rw [q] at c
    obtain ⟨_, vs, hv, _⟩ := c
    exact ⟨_, hv, noTb_k, fun f z => by cases z⟩
  | t ds =>
    rw [q] at c
    obtain ⟨_, vs, hv, _⟩ := c
    exact ⟨_, hv, noTb_t, fun f z => by cases z⟩
  | r ds =>
    rw [q] at c
    obtain ⟨_, vs, hv, _⟩ := c
    exact ⟨_, hv, noTb_t, fun f z => by cases z⟩
  | i n' j' ds =>
    rw [q] at c
    obtain ⟨_, vs, hv, _⟩ := c
    exact ⟨_, hv, noTb_l, fun f z => by cases z⟩
  | g x =>
    rw [q] at c
    obtain ⟨_, o, hv, q1⟩ := c
    exact ⟨_, hv, q1.ntb, q1.ntup⟩
theorem nv_grow {m : List Cell} (a : Gr w w1) (h : NV ec w m) : NV ec w1 m := by
  refine ⟨⟨fun t q n j ds e1 e2 => ?_, fun t p x e1 e2 => ?_⟩, fun p hp => ?_⟩
  · rw [a.r] at e1
    obtain ⟨h1, h2⟩ := h.1.1 t q n j ds e1 e2
    refine ⟨h1, fun p ks e3 e4 => ?_⟩
    rw [a.r] at e3
    obtain ⟨ws, k, e5, e6⟩ := h2 p ks e3 e4
    exact ⟨ws, k, a.h _ _ e5, e6⟩
  · rw [a.r] at e1
    exact (h.1.2 t p x e1 e2).mono (fun _ _ _ z => by rw [a.r]; exact z) fun _ _ z => a.h _ _ z
  · rw [a.f] at hp
    rcases h.2 p hp with z | ⟨o, e, z⟩
    · exact .inl z
    · exact .inr ⟨o, a.h _ _ e, z⟩
theorem Gr.le (a : Gr w w1) : Le w w1 := ⟨a.g, fun _ _ e _ => ⟨_, a.h _ _ e, fun _ => rfl⟩, by rw [a.r]; exact List.prefix_refl _, fun _ h => .inl (a.r ▸ h), a.f, fun _ _ _ e => a.h _ _ e⟩
theorem Rel.grow (r : Rel ec K w σ s) (a : Gr w w1) : Rel ec K w1 σ s := by
  refine ⟨⟨a.e r.mem.ext, by rw [a.r]; exact r.mem.len, by rw [a.r]; exact r.mem.nd, fun n p c h1 h2 => ?_, fun p hp => ?_, by rw [a.f]; exact r.mem.tab.ext a.h, r.mem.inv.trans (a.le.ch _), a.t r.mem.gt, nv_grow a r.mem.nv⟩, r.len, fun i sl h => slOk_mono a.le (r.slot i sl h)⟩
  rotate_left
  · rw [a.f] at hp
    obtain ⟨h1, h2, o, ho⟩ := r.mem.fo p hp
    have nt : NoTup o := by
      rcases r.mem.nv.2 p hp with z | ⟨o', e, _, z⟩
      · obtain ⟨q, hq, e⟩ := List.mem_map.mp z
        obtain ⟨ps, e1, _⟩ := (r.mem.tab q hq).2
        rw [e, ho] at e1
        intro vs z
        rw [z] at e1
        cases e1
      · rw [ho] at e
        cases e
        exact z
    exact ⟨a.n p o ho nt h1, by rw [a.r]; exact h2, o, a.h _ _ ho⟩
  rw [a.r] at h1
  have c0 := r.mem.cell n p c h1 h2
  refine cOk_mono a.g (fun hc => ?_) (fun o _ e => a.h _ _ e) c0
  have hg : w.G p = none := by
    cases c with
    | l ds => exact c0.1
    | k kvs => exact c0.1
    | t kvs => exact c0.1
    | r ks => exact c0.1
    | i n j ds => exact c0.1
    | g x => exact c0.1
    | gone => exact absurd rfl hc
  obtain ⟨o, ho, _, nt⟩ := r.liveT h1 hg
  exact a.n p o ho nt hg
def RvN (K : Fg) (w w' : Wd) (z : V) : Rv → Prop
  | .d d => Rp K w'.G z d
  | .new c => ∃ p, z = .ref p ∧ w.H p = none ∧ COk K w'.G w'.H p c
  | .ref _ => False
  | .t _ _ => False
def Post (K : Fg) (w : Wd) (rv : Rv) (Q : VK) : Prop := ∀ z w', Gr w w' → RvN K w w' z rv → Q z w'.H
theorem post_of {rv : Rv} (hr : Rel ec K w σ s) (h : okV ec K w σ Q rv s) : Post K w rv Q := fun z w' g n => by
  refine h z w' g.le (hr.grow g) ?_ fun c ec p ez => ?_
  rotate_left
  · subst ec
    obtain ⟨p', e, hp, hc⟩ := n
    rw [ez] at e
    cases e
    exact hp
  cases rv with
  | d d => exact n
  | ref _ => exact n.elim
  | t _ _ => exact n.elim
  | new c =>
    obtain ⟨p, e, hp, hc⟩ := n
    refine ⟨p, e, ⟨fun hm => ?_, fun hm => ?_⟩, hc⟩
    · rw [g.r] at hm
      obtain ⟨o, ho⟩ := hr.live hm
      rw [hp] at ho
      cases ho
    · rw [g.f] at hm
      obtain ⟨_, _, o, ho⟩ := hr.mem.fo p hm
      rw [hp] at ho
      cases ho
theorem post_d {d : D} {z : V} (h : Post K w (.d d) Q) (r : Rp K w.G z d) : Q z w.H := h z w (Gr.refl w) r
theorem post_int {i : Int} (h : Post K w (.d (.int i)) Q) : Q (.int i) w.H := post_d h (.int i)
theorem post_bool {i : Bool} (h : Post K w (.d (.bool i)) Q) : Q (.bl i) w.H := post_d h (.bl i)
theorem post_str {i : Str} (h : Post K w (.d (.str i)) Q) : Q (.str i) w.H := post_d h (.str i)
theorem same_upd {H : Hp} {p : Addr} {o : HO} (h : H p = none) : Same H (upd H p o) := fun b x e => by
  rw [upd_ne (ne_of_none e h)]
  exact e
theorem same_upd2 {G H : Hp} {p : Addr} {o : HO} (h : Same G H) : Same (upd G p o) (upd H p o) := fun b x e => by
  by_cases hb : b = p
  · subst hb
    rw [upd_same] at e ⊢
    exact e
  · rw [upd_ne hb] at e ⊢
    exact h b x e
theorem post_tup {ds : List D} {vs : List V} {p : Addr} (h : Post K w (.d (.tuple ds)) Q) (r : RpAll K w.G vs ds) (hp : w.H p = none) (hx : Same w.G w.H) : Q (.ref p) (upd w.H p (.tup vs)) := by
  have hg : w.G p = none := hx.free hp
  exact h (.ref p) ⟨upd w.G p (.tup vs), w.r, w.F, upd w.H p (.tup vs)⟩ ⟨rfl, rfl, same_upd hg, same_upd hp, fun e => same_upd2 e, fun q o e _ n => by
    show upd w.G p (.tup vs) q = none
    rw [upd_ne (ne_of_none e hp)]
    exact n, fun h => noTG_upd h noTb_tup⟩ (.tup upd_same (r.mono (same_upd hg)))
theorem gr_new {p : Addr} {o : HO} (hp : w.H p = none) : Gr w ⟨w.G, w.r, w.F, upd w.H p o⟩ := ⟨rfl, rfl, Same.refl _, same_upd hp, fun e => e.trans (same_upd hp), fun _ _ _ _ n => n, fun h => h⟩
theorem post_lst {ds : List D} {vs : List V} {p : Addr} (h : Post K w (.new (.l ds)) Q) (r : RpAll K w.G vs ds) (hp : w.H p = none) (hx : Same w.G w.H) : Q (.ref p) (upd w.H p (.lst vs)) :=
  h (.ref p) ⟨w.G, w.r, w.F, upd w.H p (.lst vs)⟩ (gr_new hp) ⟨p, rfl, hp, hx.free hp, vs, upd_same, r⟩
/-- an operation on values does what the function on data says -/
def Op1S (K : Fg) (r : V → Hp → VK → Prop) (f : Od → Option Rv) : Prop := ∀ (w : Wd) (x : V) (o : Od) (rv : Rv) (Q : VK), Same w.G w.H → OdOk K w x o → f o = some rv → Post K w rv Q → r x w.H Q
def Op2S (K : Fg) (r : R2) (f : Od → Od → Option Rv) : Prop := ∀ (w : Wd) (x y : V) (o o' : Od) (rv : Rv) (Q : VK), Same w.G w.H → OdOk K w x o → OdOk K w y o' → f o o' = some rv → Post K w rv Q → r x y w.H Q
theorem op1 {r : V → Hp → VK → Prop} {f : Od → Option Rv} (hs : Op1S K r f) {c : CE} {H : Hp} (h : rd K ec W (cOp1 f c) σ H Q) : rd K ec W c σ H fun x H1 => r x H1 Q := by
  obtain ⟨w, s, rfl, hr, h⟩ := h
  refine run_cv hr h fun x w1 s1 a le1 hr1 ha hn h1 => ?_
  obtain ⟨o, e1, h2⟩ := h1.opt
  obtain ⟨rv, e2, h3⟩ := h2.opt
  exact hs w1 x o rv Q hr1.mem.ext (od_of hr1 ha e1) e2 (post_of hr1 fun z w' le r' o f => h3 z w' (le1.trans le) r' o (f.back le1 le o))
theorem op2 {r : R2} {f : Od → Od → Option Rv} (hs : Op2S K r f) {ca cb : CE} {H : Hp} (h : rd K ec W (cOp2 f ca cb) σ H Q) : rd K ec W ca σ H fun x H1 => rd K ec W cb σ H1 fun y H2 => r x y H2 Q := by
  obtain ⟨w, s, rfl, hr, h⟩ := h
  refine run_cv hr h fun x w1 s1 a le1 hr1 ha hn h1 => ?_
  refine run_cv hr1 (Res.mono h1 (fun _ _ q => q) fun _ _ q => okE_le le1 q) fun y w2 s2 b le2 hr2 hb hn2 h2 => ?_
  obtain ⟨o, e1, h2⟩ := h2.opt
  obtain ⟨o', e2, h2⟩ := h2.opt
  obtain ⟨rv, e3, h3⟩ := h2.opt
  exact hs w2 x y o o' rv Q hr2.mem.ext (od_of hr2 (ha.le hn le2) e1) (od_of hr2 hb e2) e3 (post_of hr2 fun z w' le r' o f => h3 z w' ((le1.trans le2).trans le) r' o (f.back (le1.trans le2) le o))
/-! ### what operands are -/
theorem OdOk.rp {x : V} {d : D} (hx : Same w.G w.H) (h : OdOk K w x (.d d)) : Rp K w.H x d := by
  rcases h with h | ⟨p, vs, ds, rfl, rfl, hv, ra⟩
  · exact h.mono hx
  · exact .lst (SqL.of hv) (ra.mono hx)
theorem OdOk.int {x : V} {i : Int} (h : OdOk K w x (.d (.int i))) : x = .int i := by
  rcases h with h | ⟨p, vs, ds, rfl, e, _⟩
  · cases h
    rfl
  · cases e
theorem OdOk.bool {x : V} {i : Bool} (h : OdOk K w x (.d (.bool i))) : x = .bl i := by
  rcases h with h | ⟨p, vs, ds, rfl, e, _⟩
  · cases h
    rfl
  · cases e
theorem OdOk.str {x : V} {i : Str} (h : OdOk K w x (.d (.str i))) : x = .str i := by
  rcases h with h | ⟨p, vs, ds, rfl, e, _⟩
  · cases h
    rfl
  · cases e
theorem OdOk.none {x : V} (h : OdOk K w x (.d .none)) : x = .non := by
  rcases h with h | ⟨p, vs, ds, rfl, e, _⟩
  · cases h
    rfl
  · cases e
theorem OdOk.tup {x : V} {ds : List D} (h : OdOk K w x (.d (.tuple ds))) : ∃ p vs, x = .ref p ∧ w.G p = some (.tup vs) ∧ RpAll K w.G vs ds := by
  rcases h with h | ⟨p, vs, ds, rfl, e, _⟩
  · cases h with
    | tup a b => exact ⟨_, _, rfl, a, b⟩
  · cases e
theorem OdOk.list {x : V} {ds : List D} (hx : Same w.G w.H) (h : OdOk K w x (.d (.list ds))) : ∃ p vs, x = .ref p ∧ SqL K w.H p vs ∧ RpAll K w.G vs ds := by
  rcases h with h | ⟨p, vs, ds, rfl, e, hv, ra⟩
  · cases h with
    | lst a b => exact ⟨_, _, rfl, hx.seq a, b⟩
  · cases e
    exact ⟨p, vs, rfl, SqL.of hv, ra⟩
theorem OdOk.dict {x : V} {es : List (D × D)} (hx : Same w.G w.H) (h : OdOk K w x (.d (.dict es))) (nt : isTag es = false) : ∃ p ws, x = .ref p ∧ w.H p = some (.dK ws) ∧ RpKv K w.G ws es := by
  rcases h with h | ⟨p, vs, ds, rfl, e, hv, ra⟩
  · cases h with
    | dct a b => exact ⟨_, _, rfl, hx _ _ a, b⟩
    | dctT a b => cases nt
    | dctN a g b => cases nt
    | dctF a b => cases nt
  · cases e
theorem kD_tag {k : L2.Key} : kD k ≠ .list [] := by
  cases k <;> exact fun z => by cases z
theorem OdOk.dictT {x : V} {es : List (D × D)} (h : OdOk K w x (.d (.dict (tagT :: es)))) : ∃ p od ws, x = .ref p ∧ w.G p = some (.frz od (.dT ws)) ∧ RpKt K w.G ws es := by
  rcases h with h | ⟨p, vs, ds, rfl, e, hv, ra⟩
  · generalize hE : tagT :: es = E at h
    cases h with
    | dct a b =>
      cases b with
      | nil => cases hE
      | cons r t =>
        have hE := congrArg (fun l : List (D × D) => l.head?.map (·.1)) hE
        exact absurd (Option.some.inj hE).symm kD_tag
    | dctT a b =>
      cases hE
      exact ⟨_, _, _, rfl, a, b⟩
    | dctN a g b =>
      have hE := congrArg (fun l : List (D × D) => l.head?.map (·.1)) hE
      cases hE
    | dctF a b =>
      have hE := congrArg (fun l : List (D × D) => l.head?.map (·.1)) hE
      cases hE
  · cases e
theorem Gr.trans {w w1 w2 : Wd} (a : Gr w w1) (b : Gr w1 w2) : Gr w w2 := ⟨b.r.trans a.r, b.f.trans a.f, a.g.trans b.g, a.h.trans b.h, fun h => b.e (a.e h), fun p o e nt g => b.n p o (a.h _ _ e) nt (a.n p o e nt g), fun h => b.t (a.t h)⟩
end
end Vm
namespace Vm
open PySem L2
section
variable {K : Fg} {w : Wd}
/-! ### reading the whole heap: Reads of what stands for data -/
mutual
theorem Rp.reads {X : Cx} {pins : List (Addr × Obj)} {σ : St} {H : Hp} {s : Shared} (I : Inv X pins σ H s) : ∀ (d : PyData) (v : V) (u : Value), d.plain = true → Rp X.K H v d → RelV v u → ∃ as, Reads s.heap u d as
  | .none, _, _, _, h, r => by
    cases h
    cases r
    exact ⟨_, Reads.none⟩
  | .bool b, _, _, _, h, r => by
    cases h
    cases r
    exact ⟨_, Reads.bool b⟩
  | .int i, _, _, _, h, r => by
    cases h
    obtain ⟨t, rfl⟩ := r
    exact ⟨_, Reads.int i t⟩
  | .str x, _, _, _, h, r => by
    cases h
    obtain ⟨t, rfl⟩ := r
    exact ⟨_, Reads.str x t⟩
  | .list ds, _, _, hp, h, r => by
    cases h with
    | lst hs ha =>
      cases r
      obtain ⟨its, rv, ⟨o, n, ho, hc, _, hd⟩, _⟩ := I.list hs
      obtain ⟨as, hr⟩ := RpAll.reads I ds _ its (by simpa [PyData.plain] using hp) ha rv
      exact ⟨_, Reads.list ho hc hd hr⟩
  | .tuple ds, _, _, hp, h, r => by
    cases h with
    | tup hs ha =>
      cases r
      obtain ⟨its, rv, ⟨o, ho, hc, n, hd⟩, _⟩ := I.tuple (SqT.of (K := X.K) hs)
      obtain ⟨as, hr⟩ := RpAll.reads I ds _ its (by simpa [PyData.plain] using hp) ha rv
      exact ⟨_, Reads.tuple ho hc hd hr⟩
  | .dict _, _, _, hp, _, _ => by simp [PyData.plain] at hp
theorem RpAll.reads {X : Cx} {pins : List (Addr × Obj)} {σ : St} {H : Hp} {s : Shared} (I : Inv X pins σ H s) : ∀ (ds : List PyData) (vs : List V) (us : List Value), PyData.plainAll ds = true → RpAll X.K H vs ds → Vals vs us → ∃ as, ReadsAll s.heap us ds as
  | [], _, _, _, h, r => by
    cases h
    cases r
    exact ⟨_, ReadsAll.nil⟩
  | d :: ds, _, _, hp, h, r => by
    have hp' : d.plain = true ∧ PyData.plainAll ds = true := by simpa [PyData.plainAll] using hp
    cases h with
    | cons h1 h2 =>
      cases r with
      | cons r1 r2 =>
        obtain ⟨as, q1⟩ := Rp.reads I d _ _ hp'.1 h1 r1
        obtain ⟨bs, q2⟩ := RpAll.reads I ds _ _ hp'.2 h2 r2
        exact ⟨_, ReadsAll.cons q1 q2⟩
end
end
section
variable {X : Cx} {ec : EC} {W : WX}
/-- the judgement: the expression does what the closure does -/
abbrev Ex (X : Cx) (ec : EC) (W : WX) (e : Expr) (c : CE) : Prop := PE X e (rd X.K ec W c)
abbrev Tx (X : Cx) (ec : EC) (W : WX) (e : Expr) (c : CT) : Prop := PT X e (rdT X.K ec W c)
/-! ### names, constants -/
def cVar (i : Nat) : CE := fun s => match s.v[i]? with
  | some (.d x) => .ok (.d x) s
  | some (.c n) => .ok (.ref n) s
  | some (.t b es) => .ok (.t b es) s
  | _ => .bad
theorem e_var (i : Nat) {x : Str} {pos : Pos} (hN : X.N[i]? = some x := by rfl) (hv : Vis X.env.scope x := by first | exact Or.inl rfl | exact Or.inr (Or.inl rfl) | exact Or.inr (Or.inr rfl)) (hd : (x == ("__debug__" : Str)) = false := by decide)
    (hcd : (x == ("__classdict__" : Str)) = false := by decide) : Ex X ec W (.Name x pos) (cVar i) := (pe_var hN hv hd hcd).imp fun σ H Q h => by
  obtain ⟨w, s, rfl, hr, h⟩ := h
  unfold cVar at h
  split at h
  · rename_i y e
    obtain ⟨v, e2, rp⟩ := hr.slot i _ e
    exact ⟨v, e2, h v w (Le.refl w) hr rp .d⟩
  · rename_i n e
    obtain ⟨p, e2, rp⟩ := hr.slot i _ e
    exact ⟨.ref p, e2, h (.ref p) w (Le.refl w) hr ⟨p, rfl, rp⟩ .ref⟩
  · rename_i b es e
    obtain ⟨v, e2, rp⟩ := hr.slot i _ e
    exact ⟨v, e2, h v w (Le.refl w) hr rp .t⟩
  · exact h.elim
def cC (d : D) : CE := fun s => .ok (.d d) s
theorem e_const {v : V} {d : D} {e : Expr} (he : PE X e (tC v)) (hd : ∀ H, Rp X.K H v d) : Ex X ec W e (cC d) := he.imp fun σ H Q h => by
  obtain ⟨w, s, rfl, hr, h⟩ := h
  exact h v w (Le.refl w) hr (hd _) .d
theorem e_int {i j pos} : Ex X ec W (.Constant (.int i) j pos) (cC (.int i)) := e_const pe_int fun _ => .int i
theorem e_bool {i j pos} : Ex X ec W (.Constant (.bool i) j pos) (cC (.bool i)) := e_const pe_bl fun _ => .bl i
theorem e_none {j pos} : Ex X ec W (.Constant .none j pos) (cC .none) := e_const pe_non fun _ => .non
theorem e_str {i j pos} : Ex X ec W (.Constant (.str i) j pos) (cC (.str i)) := e_const pe_str fun _ => .str i
/-- a module's constant -/
theorem e_glob {x : Str} {v : V} {u : Value} {d : D} {pos : Pos} (hm : X.mg x = some u) (r : RelV v u) (hd : ∀ H, Rp X.K H v d) (hg : Gl X x := by rfl) (hb : (x == ("__debug__" : Str)) = false := by decide) : Ex X ec W (.Name x pos) (cC d) := e_const (pe_glob hg hm r hb) hd
/-! ### argument lists that become data -/
abbrev CA := S → R (List D)
def cNil : CA := fun s => .ok [] s
def cCons (c : CE) (ca : CA) : CA := fun s => (cv c s).bind fun a s1 => match a with
  | .d x => (ca s1).bind fun xs s2 => .ok (x :: xs) s2
  | _ => .bad
def rdA (K : Fg) (ec : EC) (W : WX) (c : CA) : TA := fun σ H Q => ∃ w s, w.H = H ∧ Rel ec K w σ s ∧ Res (fun ds s' => ∀ vs w', Le w w' → Rel ec K w' σ s' → RpAll K w'.G vs ds → Q vs w'.H) (okE K ec W σ w) (c s)
theorem _root_.L2.PA.imp {X : Cx} {es : List Expr} {t t' : TA} (h : PA X es t) (i : ∀ σ H Q, t' σ H Q → t σ H Q) : PA X es t' := ⟨fun pos pins s σ H Q I q => h.run pos pins s σ H Q I (i _ _ _ q)⟩
theorem a_nil : PA X [] (rdA X.K ec W cNil) := PA.imp pa_nil fun σ H Q h => by
  obtain ⟨w, s, rfl, hr, h⟩ := h
  exact h [] w (Le.refl w) hr .nil
theorem a_cons {e : Expr} {es : List Expr} {c : CE} {ca : CA} (h1 : Ex X ec W e c) (h2 : PA X es (rdA X.K ec W ca)) (hs : starEach (e :: es) X.env = (false, eval e X.env) :: starEach es X.env := by rfl) : PA X (e :: es) (rdA X.K ec W (cCons c ca)) :=
  PA.imp (pa_cons h1 h2 hs) fun σ H Q h => by
    obtain ⟨w, s, rfl, hr, h⟩ := h
    show rd X.K ec W c σ w.H _
    refine run_cv hr h fun x w1 s1 a le1 hr1 ha hn h1 => ?_
    cases a with
    | ref n => exact h1.elim
    | t _ _ => exact h1.elim
    | new c => exact absurd rfl (hn c)
    | d y =>
      refine ⟨w1, s1, rfl, hr1, ?_⟩
      refine Res.mono h1.bind (fun ds s2 h2 vs w2 le2 hr2 rp => ?_) fun _ _ q => okE_le le1 q
      exact h2 (x :: vs) w2 (le1.trans le2) hr2 (.cons (Rp.mono le2.g _ _ ha) rp)
def cTup (ca : CA) : CE := fun s => (ca s).bind fun ds s1 => .ok (.d (.tuple ds)) s1
def cLst (ca : CA) : CE := fun s => (ca s).bind fun ds s1 => .ok (.new (.l ds)) s1
theorem sz1000 {n : Nat} (h : n ≤ 1000) : n ≤ sizeLine := Nat.le_trans h (by decide)
theorem e_tup {es : List Expr} {ca : CA} {x1} {pos : Pos} (h : PA X es (rdA X.K ec W ca)) (hl : ∀ s ds s', ca s = .ok ds s' → ds.length ≤ 1000) : Ex X ec W (.Tuple es x1 pos) (cTup ca) := (pe_tup h).imp fun σ H Q h => by
  obtain ⟨w, s, rfl, hr, h⟩ := h
  refine ⟨w, s, rfl, hr, ?_⟩
  unfold cTup at h
  cases e : ca s with
  | bad => rw [e] at h; exact h
  | ex n s' => rw [e] at h; exact h
  | ok ds s' =>
    rw [e] at h
    intro vs w' le r' rp
    have hz : vs.length ≤ sizeLine := by
      rw [rp.length]
      exact sz1000 (hl _ _ _ e)
    exact ⟨hz, fun p hp => post_tup (post_of r' fun z w2 le2 r2 o f => h z w2 (le.trans le2) r2 o (f.back le le2 o)) rp hp r'.mem.ext⟩
theorem e_lst {es : List Expr} {ca : CA} {pos : Pos} (h : PA X es (rdA X.K ec W ca)) (hl : ∀ s ds s', ca s = .ok ds s' → ds.length ≤ 1000) : Ex X ec W (.List es pos) (cLst ca) := (pe_lst h).imp fun σ H Q h => by
  obtain ⟨w, s, rfl, hr, h⟩ := h
  refine ⟨w, s, rfl, hr, ?_⟩
  unfold cLst at h
  cases e : ca s with
  | bad => rw [e] at h; exact h
  | ex n s' => rw [e] at h; exact h
  | ok ds s' =>
    rw [e] at h
    intro vs w' le r' rp
    have hz : vs.length ≤ sizeLine := by
      rw [rp.length]
      exact sz1000 (hl _ _ _ e)
    exact ⟨hz, fun p hp => post_lst (post_of r' fun z w2 le2 r2 o f => h z w2 (le.trans le2) r2 o (f.back le le2 o)) rp hp r'.mem.ext⟩
/-- a written list of arguments has its length -/
def CLen (n : Nat) (ca : CA) : Prop := ∀ s ds s', ca s = .ok ds s' → ds.length = n
theorem cl_nil : CLen 0 cNil := fun s ds s' e => by
  cases e
  rfl
theorem cl_cons {n : Nat} {c : CE} {ca : CA} (h : CLen n ca) : CLen (n + 1) (cCons c ca) := fun s ds s' e => by
  unfold cCons at e
  cases e1 : cv c s with
  | bad => rw [e1] at e; cases e
  | ex _ _ => rw [e1] at e; cases e
  | ok a s1 =>
    rw [e1] at e
    cases a with
    | ref _ => cases e
    | t _ _ => cases e
    | new _ => cases e
    | d x =>
      simp only [R.bind] at e
      cases e2 : ca s1 with
      | bad => rw [e2] at e; cases e
      | ex _ _ => rw [e2] at e; cases e
      | ok xs s2 =>
        rw [e2] at e
        cases e
        show xs.length + 1 = n + 1
        rw [h _ _ _ e2]
theorem CLen.le {n : Nat} {ca : CA} (h : CLen n ca) (hn : n ≤ 1000) : ∀ s ds s', ca s = .ok ds s' → ds.length ≤ 1000 := fun s ds s' e => by
  rw [h s ds s' e]
  exact hn
/-! ### tests -/
def truthy : Od → Option Bool
  | .d .none => some false
  | .d (.bool b) => some b
  | .d (.int i) => some (i != 0)
  | .d (.list ds) => some (!ds.isEmpty)
  | .d (.tuple ds) => some (!ds.isEmpty)
  | .c (.k kvs) => some (!kvs.isEmpty)
  | _ => none
def cTru (c : CE) : CT := fun s => (cv c s).bind fun a s1 => opt (a.od s1.m) fun o => opt (truthy o) fun b => .ok b s1
theorem isEmpty_len {α β : Type} {xs : List α} {ys : List β} (h : xs.length = ys.length) : xs.isEmpty = ys.isEmpty := by
  cases xs <;> cases ys <;> simp_all
theorem paired_len {α β : Type} {F : α → β → Prop} {xs : List α} {ys : List β} (h : Paired F xs ys) : xs.length = ys.length := Paired.length h
theorem truthy_ok {K : Fg} {w : Wd} {x : V} {o : Od} {b : Bool} (hx : Same w.G w.H) (h : OdOk K w x o) (e : truthy o = some b) : TruV K x w.H b := by
  unfold truthy at e
  split at e
  · cases e
    rw [h.none]
    exact rfl
  · cases e
    rw [h.bool]
    exact rfl
  · cases e
    rw [h.int]
    exact rfl
  · cases e
    obtain ⟨p, vs, rfl, hs, ra⟩ := h.list hx
    exact .inl ⟨vs, hs, by rw [isEmpty_len ra.length]⟩
  · cases e
    obtain ⟨p, vs, rfl, hs, ra⟩ := h.tup
    exact .inr (.inl ⟨vs, SqT.of (hx _ _ hs), by rw [isEmpty_len ra.length]⟩)
  · cases e
    obtain ⟨p, rfl, ⟨_, ws, hw, ra⟩, _⟩ := h
    exact .inr (.inr ⟨ws, hw, by rw [isEmpty_len (paired_len ra)]⟩)
  · cases e
theorem t_of {e : Expr} {c : CE} (h : Ex X ec W e c) (he : ∀ whole, isTrue e X.env whole = (do let v ← whole; standAt e.pos; holding [v] (PySem.truthy v)) := by intro _; rfl) : Tx X ec W e (cTru c) :=
  (pt_truth h he).imp fun σ H Q h => by
    obtain ⟨w, s, rfl, hr, h⟩ := h
    refine run_cv hr h fun x w1 s1 a le1 hr1 ha hn h1 => ?_
    obtain ⟨o, e1, h2⟩ := h1.opt
    obtain ⟨b, e2, h3⟩ := h2.opt
    exact ⟨b, truthy_ok hr1.mem.ext (od_of hr1 ha e1) e2, h3 w1 le1 hr1⟩
def tAnd' (a b : CT) : CT := fun s => (a s).bind fun x s1 => if x = true then b s1 else .ok false s1
def tOr' (a b : CT) : CT := fun s => (a s).bind fun x s1 => if x = true then .ok true s1 else b s1
def tNot' (a : CT) : CT := fun s => (a s).bind fun x s1 => .ok (!x) s1
abbrev Px (X : Cx) (ec : EC) (W : WX) (e : Expr) (c : CT) : Prop := PW X e (rdT X.K ec W c)
theorem _root_.L2.PW.imp {X : Cx} {e : Expr} {t t' : TT} (h : PW X e t) (i : ∀ σ H Q, t' σ H Q → t σ H Q) : PW X e t' := ⟨fun wh pins s σ H Q I q => h.run wh pins s σ H Q I (i _ _ _ q)⟩
theorem p_and1 {a : Expr} {c : CT} {pos : Pos} (ha : Tx X ec W a c) : Px X ec W (.BoolOp .And [a] pos) c := pw_and1 ha
theorem p_or1 {a : Expr} {c : CT} {pos : Pos} (ha : Tx X ec W a c) : Px X ec W (.BoolOp .Or [a] pos) c := pw_or1 ha
theorem run_t {K : Fg} {σ : St} {w : Wd} {s : S} {α : Type} {c : CT} {k : Bool → S → R α} {P : α → S → Prop} {Q : Bool → Hp → Prop} (hr : Rel ec K w σ s) (h : Res P (okE K ec W σ w) ((c s).bind k))
    (hk : ∀ b w1 s1, Le w w1 → Rel ec K w1 σ s1 → Res P (okE K ec W σ w) (k b s1) → Q b w1.H) : rdT K ec W c σ w.H Q := by
  refine ⟨w, s, rfl, hr, ?_⟩
  cases e : c s with
  | bad => rw [e] at h; exact h
  | ex n s' => rw [e] at h; exact h
  | ok b s' =>
    rw [e] at h
    exact fun w' le r' => hk b w' s' le r' h
theorem p_and {a b : Expr} {rest : List Expr} {c d : CT} {pos : Pos} (ha : Tx X ec W a c) (hb : Px X ec W (.BoolOp .And (b :: rest) pos) d) : Px X ec W (.BoolOp .And (a :: b :: rest) pos) (tAnd' c d) := PW.imp (pw_and ha hb) fun σ H Q h => by
  obtain ⟨w, s, rfl, hr, h⟩ := h
  refine run_t hr h fun x w1 s1 le1 hr1 h1 => ?_
  cases x with
  | true => exact iteT ⟨w1, s1, rfl, hr1, FinT.le le1 h1⟩
  | false => exact iteF (h1 w1 le1 hr1)
theorem p_or {a b : Expr} {rest : List Expr} {c d : CT} {pos : Pos} (ha : Tx X ec W a c) (hb : Px X ec W (.BoolOp .Or (b :: rest) pos) d) : Px X ec W (.BoolOp .Or (a :: b :: rest) pos) (tOr' c d) := PW.imp (pw_or ha hb) fun σ H Q h => by
  obtain ⟨w, s, rfl, hr, h⟩ := h
  refine run_t hr h fun x w1 s1 le1 hr1 h1 => ?_
  cases x with
  | true => exact iteT (h1 w1 le1 hr1)
  | false => exact iteF ⟨w1, s1, rfl, hr1, FinT.le le1 h1⟩
theorem t_bop {e : Expr} {c : CT} (h : Px X ec W e c) : Tx X ec W e c := h.pt
theorem t_not {a : Expr} {c : CT} {pos : Pos} (ha : Tx X ec W a c) : Tx X ec W (.UnaryOp .Not a pos) (tNot' c) := (pt_not ha).imp fun σ H Q h => by
  obtain ⟨w, s, rfl, hr, h⟩ := h
  exact run_t hr h fun x w1 s1 le1 hr1 h1 => h1 w1 le1 hr1
/-! ### as values: and, or, not; a if t else b -/
def cB (c : CE) : CT := fun s => (cv c s).bind fun a s1 => match a with
  | .d (.bool b) => .ok b s1
  | _ => .bad
def cAnd (a b : CE) : CE := fun s => (cB a s).bind fun x s1 => if x = true then b s1 else .ok (.d (.bool false)) s1
def cOr (a b : CE) : CE := fun s => (cB a s).bind fun x s1 => if x = true then .ok (.d (.bool true)) s1 else b s1
def cNot (a : CE) : CE := fun s => (cB a s).bind fun x s1 => .ok (.d (.bool (!x))) s1
theorem run_b {K : Fg} {σ : St} {w : Wd} {s : S} {α : Type} {c : CE} {k : Bool → S → R α} {P : α → S → Prop} {Q : VK} (hr : Rel ec K w σ s) (h : Res P (okE K ec W σ w) ((cB c s).bind k))
    (hk : ∀ b w1 s1, Le w w1 → Rel ec K w1 σ s1 → Res P (okE K ec W σ w) (k b s1) → Q (.bl b) w1.H) : rd K ec W c σ w.H Q := by
  have h' : Res P (okE K ec W σ w) ((cv c s).bind fun a s1 => (match a with
    | .d (.bool b) => R.ok b s1
    | _ => R.bad).bind k) := by
    unfold cB at h
    cases e : cv c s with
    | bad => rw [e] at h; exact h
    | ex n s' => rw [e] at h; exact h
    | ok a s' => rw [e] at h; exact h
  refine run_cv hr h' fun x w1 s1 a le1 hr1 ha hn h1 => ?_
  cases a with
  | ref n => exact h1.elim
  | t _ _ => exact h1.elim
  | new c => exact h1.elim
  | d y =>
    cases y with
    | bool b =>
      have e : x = .bl b := by
        have ha : Rp K w1.G x (.bool b) := ha
        cases ha
        rfl
      rw [e]
      exact hk b w1 s1 le1 hr1 h1
    | none => exact h1.elim
    | int _ => exact h1.elim
    | str _ => exact h1.elim
    | list _ => exact h1.elim
    | tuple _ => exact h1.elim
    | dict _ => exact h1.elim
theorem e_one {op} {a : Expr} {c : CE} {pos : Pos} (ha : Ex X ec W a c) : Ex X ec W (.BoolOp op [a] pos) c := pe_one ha
theorem e_and {a b : Expr} {rest : List Expr} {c d : CE} {pos : Pos} (ha : Ex X ec W a c) (hb : Ex X ec W (.BoolOp .And (b :: rest) pos) d) : Ex X ec W (.BoolOp .And (a :: b :: rest) pos) (cAnd c d) := (pe_and ha hb).imp fun σ H Q h => by
  obtain ⟨w, s, rfl, hr, h⟩ := h
  refine run_b hr h fun x w1 s1 le1 hr1 h1 => ⟨x, rfl, ?_⟩
  cases x with
  | true => exact iteT ⟨w1, s1, rfl, hr1, FinV.le le1 h1⟩
  | false => exact iteF (h1 (.bl false) w1 le1 hr1 (.bl false) .d)
theorem e_or {a b : Expr} {rest : List Expr} {c d : CE} {pos : Pos} (ha : Ex X ec W a c) (hb : Ex X ec W (.BoolOp .Or (b :: rest) pos) d) : Ex X ec W (.BoolOp .Or (a :: b :: rest) pos) (cOr c d) := (pe_or ha hb).imp fun σ H Q h => by
  obtain ⟨w, s, rfl, hr, h⟩ := h
  refine run_b hr h fun x w1 s1 le1 hr1 h1 => ⟨x, rfl, ?_⟩
  cases x with
  | true => exact iteT (h1 (.bl true) w1 le1 hr1 (.bl true) .d)
  | false => exact iteF ⟨w1, s1, rfl, hr1, FinV.le le1 h1⟩
theorem e_not {a : Expr} {c : CE} {pos : Pos} (ha : Ex X ec W a c) : Ex X ec W (.UnaryOp .Not a pos) (cNot c) := (pe_not ha).imp fun σ H Q h => by
  obtain ⟨w, s, rfl, hr, h⟩ := h
  exact run_b hr h fun x w1 s1 le1 hr1 h1 => ⟨x, rfl, h1 (.bl (!x)) w1 le1 hr1 (.bl _) .d⟩
def cIf (t : CT) (a b : CE) : CE := fun s => (t s).bind fun x s1 => if x = true then a s1 else b s1
/-! ### operators, calls by values -/
theorem e_bin {op : Operator} {a b : Expr} {ca cb : CE} {r : R2} {f : Od → Od → Option Rv} {pos : Pos} (ho : OpR X (binaryOp op) r) (hs : Op2S X.K r f) (ha : Ex X ec W a ca) (hb : Ex X ec W b cb) : Ex X ec W (.BinOp a op b pos) (cOp2 f ca cb) :=
  (pe_op ho ha hb).imp fun _ _ _ h => op2 hs h
theorem e_cmp {op : CmpOp} {a b : Expr} {ca cb : CE} {r : R2} {f : Od → Od → Option Rv} {pos : Pos} (ho : OpR X (compareOp op) r) (hs : Op2S X.K r f) (ha : Ex X ec W a ca) (hb : Ex X ec W b cb) (hm : behindInMarks op b = false := by first | exact nomark _ | rfl) : Ex X ec W (.Compare a [op] [b] pos) (cOp2 f ca cb) :=
  (pe_cmpR ho ha hb hm).imp fun _ _ _ h => op2 hs h
theorem e_un {op : UnaryOp} {a : Expr} {ca : CE} {r : V → Hp → VK → Prop} {f : Od → Option Rv} {pos : Pos} (ho : UnR X (unaryOp op) r) (hs : Op1S X.K r f) (ha : Ex X ec W a ca) : Ex X ec W (.UnaryOp op a pos) (cOp1 f ca) :=
  (pe_un ho ha).imp fun _ _ _ h => op1 hs h
theorem e_ixR {a b : Expr} {ca cb : CE} {r : R2} {f : Od → Od → Option Rv} {pos : Pos} (hr : IxR X r) (hs : Op2S X.K r f) (ha : Ex X ec W a ca) (hb : Ex X ec W b cb) (hp : PlainIx b := by exact fun _ _ => rfl) : Ex X ec W (.Subscript a b pos) (cOp2 f ca cb) :=
  (pe_ix hr ha hb hp).imp fun _ _ _ h => op2 hs h
theorem e_call1 {id : String} {x : Str} {a : Expr} {ca : CE} {r : List V → Hp → VK → Prop} {f : Od → Option Rv} {p pos : Pos} (hc : CallR X (.builtin id) r) (hs : Op1S X.K (fun v => r [v]) f) (hm : X.mg x = none) (hv : bootBuiltins x = some (.builtin id)) (ha : Ex X ec W a ca)
    (hg : Gl X x := by rfl) (hn : x ≠ "__name__" := by decide) (hd : (x == ("__debug__" : Str)) = false := by decide) (h1 : starEach [a] X.env = (false, eval a X.env) :: starEach [] X.env := by rfl) (h2 : (backTo pos (starEach [] X.env)).any (·.1) = false := by rfl) : Ex X ec W (.Call (.Name x p) [a] [] pos) (cOp1 f ca) :=
  (pe_callB hc hg hm hv (pa_cons ha pa_nil h1) hn hd h1 h2).imp fun _ _ _ h => op1 hs h
theorem e_callT1 {T : String} {x : Str} {a : Expr} {ca : CE} {r : List V → Hp → VK → Prop} {f : Od → Option Rv} {p pos : Pos} (hc : CallR X (.type T) r) (hs : Op1S X.K (fun v => r [v]) f) (hm : X.mg x = none) (hv : bootBuiltins x = some (.type T)) (ha : Ex X ec W a ca)
    (hg : Gl X x := by rfl) (hn : x ≠ "__name__" := by decide) (hd : (x == ("__debug__" : Str)) = false := by decide) (h1 : starEach [a] X.env = (false, eval a X.env) :: starEach [] X.env := by rfl) (h2 : (backTo pos (starEach [] X.env)).any (·.1) = false := by rfl) : Ex X ec W (.Call (.Name x p) [a] [] pos) (cOp1 f ca) :=
  (pe_callTy hc hg hm hv (pa_cons ha pa_nil h1) hn hd h1 h2).imp fun _ _ _ h => op1 hs h
end
end Vm
namespace Vm
open PySem L2 PySem.W PyProof.Rows
theorem rp_ints {K : Fg} {H : Hp} : ∀ {ns : List Int} {vs : List V}, RpAll K H vs (ns.map PyData.int) → vs = ns.map V.int
  | [], _, h => by
    cases h
    rfl
  | n :: ns, _, h => by
    cases h with
    | cons h1 h2 =>
      cases h1
      rw [rp_ints h2]
      rfl
theorem rp_bools {K : Fg} {H : Hp} : ∀ {ns : List Bool} {vs : List V}, RpAll K H vs (ns.map PyData.bool) → vs = ns.map V.bl
  | [], _, h => by
    cases h
    rfl
  | n :: ns, _, h => by
    cases h with
    | cons h1 h2 =>
      cases h1
      rw [rp_bools h2]
      rfl
theorem rpAll_ints {K : Fg} {H : Hp} : ∀ ns : List Int, RpAll K H (ns.map V.int) (ns.map PyData.int)
  | [] => .nil
  | n :: ns => .cons (.int n) (rpAll_ints ns)
/-- all ints -/
def ints? : List D → Option (List Int)
  | [] => some []
  | .int i :: r => match ints? r with
    | some l => some (i :: l)
    | none => none
  | _ :: _ => none
def bools? : List D → Option (List Bool)
  | [] => some []
  | .bool i :: r => match bools? r with
    | some l => some (i :: l)
    | none => none
  | _ :: _ => none
theorem ints?_eq : ∀ {ds : List D} {ns : List Int}, ints? ds = some ns → ds = ns.map PyData.int
  | [], ns, h => by
    cases h
    rfl
  | .int i :: r, ns, h => by
    unfold ints? at h
    split at h
    · rename_i l e
      cases h
      rw [ints?_eq e]
      rfl
    · cases h
  | .none :: _, _, h => by cases h
  | .bool _ :: _, _, h => by cases h
  | .str _ :: _, _, h => by cases h
  | .list _ :: _, _, h => by cases h
  | .tuple _ :: _, _, h => by cases h
  | .dict _ :: _, _, h => by cases h
theorem bools?_eq : ∀ {ds : List D} {ns : List Bool}, bools? ds = some ns → ds = ns.map PyData.bool
  | [], ns, h => by
    cases h
    rfl
  | .bool i :: r, ns, h => by
    unfold bools? at h
    split at h
    · rename_i l e
      cases h
      rw [bools?_eq e]
      rfl
    · cases h
  | .none :: _, _, h => by cases h
  | .int _ :: _, _, h => by cases h
  | .str _ :: _, _, h => by cases h
  | .list _ :: _, _, h => by cases h
  | .tuple _ :: _, _, h => by cases h
  | .dict _ :: _, _, h => by cases h
theorem ints?_map : ∀ ns : List Int, ints? (ns.map PyData.int) = some ns
  | [] => rfl
  | n :: ns => by
    show (match ints? (ns.map PyData.int) with
      | some l => some (n :: l)
      | none => none) = _
    rw [ints?_map ns]
section
variable {X : Cx}
/-! ### + -/
def rCatV (K : Fg) : R2 := fun x y H Q => ∃ l b xs zs, x = .ref l ∧ y = .ref b ∧ SqL K H l xs ∧ SqL K H b zs ∧ xs.length + zs.length ≤ sizeLine ∧ ∀ p, H p = none → Q (.ref p) (upd H p (.lst (xs ++ zs)))
theorem op_catV : OpR X (binaryOp .Add) (rCatV X.K) := by
  intro pins s σ H x y v u Q I rx ry h
  obtain ⟨l, b, xs, zs, rfl, rfl, hH, hB, hz, q⟩ := h
  cases rx
  cases ry
  obtain ⟨its, r, pl, _⟩ := I.list hH
  obtain ⟨its2, r2, pl2, _⟩ := I.list hB
  obtain ⟨⟨cls, dd, data, sl⟩, n, ho, hc, hdd, hd⟩ := pl
  obtain ⟨⟨cls2, dd2, data2, sl2⟩, n2, ho2, hc2, hdd2, hd2⟩ := pl2
  simp only at hc hd hc2 hd2 hdd hdd2
  subst hc hd hc2 hd2
  have e : its.toArray ++ its2.toArray = (its ++ its2).toArray := by simp
  have hsz : its.length + its2.length ≤ sizeLine := by rw [← r.length, ← r2.length]; exact hz
  refine concat_meets ⟨_, ho, rfl⟩ ⟨_, ho2, rfl⟩ noFill_list_add seq_list_add PySem.F.slot_list_add PySem.F.entry_list_add (PySem.F.args_list_add_2 _ _) (list_addW l b its.toArray its2.toArray n n2 dd dd2 sl sl2 (by simpa using hsz)) ⟨ho, ho2, ?_⟩
  rw [e]
  exact ⟨.ref _, _, I.lnew (t' := s.toks) (r.append r2) (by rw [List.length_append]; omega), rfl, q _ I.fresh⟩
def rStrCat : R2 := fun x y H Q => ∃ i j, x = .str i ∧ y = .str j ∧ i.length + j.length ≤ sizeLine ∧ Q (.str (i ++ j)) H
def rAdd (K : Fg) : R2 := fun x y H Q => (rI0 fun i j => .int (i + j)) x y H Q ∨ rStrCat x y H Q ∨ rCatA K x y H Q ∨ rCatV K x y H Q
theorem or_add : OpR X (binaryOp .Add) (rAdd X.K) := OpR.or op_add (OpR.or op_add_str (OpR.or op_catA op_catV))
def opAdd : Od → Od → Option Rv
  | .d (.int i), .d (.int j) => some (.d (.int (i + j)))
  | .d (.str x), .d (.str y) => if x.length + y.length ≤ 16000000 then some (.d (.str (x ++ y))) else none
  | .d (.tuple xs), .d (.tuple ys) => if xs.length + ys.length ≤ 16000000 then some (.d (.tuple (xs ++ ys))) else none
  | .d (.list xs), .d (.list ys) => if xs.length + ys.length ≤ 16000000 then some (.new (.l (xs ++ ys))) else none
  | _, _ => none
theorem sz16 {n : Nat} (h : n ≤ 16000000) : n ≤ sizeLine := Nat.le_trans h (by decide)
theorem s_add {K : Fg} : Op2S K (rAdd K) opAdd := by
  intro w x y o o' rv Q hx h h' e q
  unfold opAdd at e
  split at e
  · cases e
    exact .inl ⟨_, _, h.int, h'.int, post_int q⟩
  · split at e
    · rename_i hl
      cases e
      exact .inr (.inl ⟨_, _, h.str, h'.str, sz16 hl, post_str q⟩)
    · cases e
  · split at e
    · rename_i xs ys hl
      cases e
      obtain ⟨p, vs, rfl, hs, ra⟩ := h.tup
      obtain ⟨p', vs', rfl, hs', ra'⟩ := h'.tup
      refine .inr (.inr (.inl ⟨p, p', vs, vs', rfl, rfl, SqT.of (hx _ _ hs), SqT.of (hx _ _ hs'), by rw [ra.length, ra'.length]; exact sz16 hl, fun e0 => ?_, fun _ e0 => ?_, fun _ _ a ha => post_tup q (ra.append ra') ha hx⟩))
      · subst e0
        cases ra
        exact post_d q (.tup hs' ra')
      · subst e0
        cases ra'
        rw [List.append_nil] at q
        exact post_d q (.tup hs ra)
    · cases e
  · split at e
    · rename_i xs ys hl
      cases e
      obtain ⟨p, vs, rfl, hs, ra⟩ := h.list hx
      obtain ⟨p', vs', rfl, hs', ra'⟩ := h'.list hx
      exact .inr (.inr (.inr ⟨p, p', vs, vs', rfl, rfl, hs, hs', by rw [ra.length, ra'.length]; exact sz16 hl, fun a ha => post_lst q (ra.append ra') ha hx⟩))
    · cases e
  · cases e
/-! ### - * // % ** on ints -/
def opSub : Od → Od → Option Rv
  | .d (.int i), .d (.int j) => some (.d (.int (i - j)))
  | _, _ => none
def mulOk (i j : Int) : Bool := decide (i.natAbs.log2 + j.natAbs.log2 < 100000000)
theorem mulOk_ok {i j : Int} (h : mulOk i j = true) : IntMulOk i j := by
  have h := of_decide_eq_true h
  have b : ∀ x : Int, Builtin.Int.intBits x ≤ x.natAbs.log2 + 1 := fun x => by
    unfold Builtin.Int.intBits
    split <;> omega
  have h1 := b i
  have h2 := b j
  have e : bitsLine = 134217728 := by decide
  unfold IntMulOk
  intro z
  rw [Bool.and_eq_true] at z
  have z2 := z.2
  unfold Builtin.Int.intTooBig at z2
  have z3 := of_decide_eq_true z2
  rw [e] at z3
  omega
theorem op_mulV : OpR X (binaryOp .Mult) (rI (fun i j => mulOk i j = true) fun i j => .int (i * j)) := opI fun _ _ _ _ _ _ _ hc q => mul_int q (mulOk_ok hc)
def rRepV (K : Fg) : R2 := fun x y H Q => ∃ l k xs, x = .ref l ∧ y = .int k ∧ SqL K H l xs ∧ -(2 ^ 63) ≤ k ∧ k < 2 ^ 63 ∧ xs.length * k.toNat ≤ sizeLine ∧ ∀ p, H p = none → Q (.ref p) (upd H p (.lst (List.replicate k.toNat xs).flatten))
theorem op_fdivV : OpR X (binaryOp .FloorDiv) (rI (fun _ j => j ≠ 0 ∧ j.natAbs.log2 < 9000) fun i j => .int (i.fdiv j)) := opI fun i j _ _ _ _ _ hc q => floordiv_int hc.1 q (.inl (PyProof.noPylong_of_log2 hc.2))
def fdv (i j : Int) : Int := if 0 < j then i / j else i.fdiv j
theorem fdv_eq (i j : Int) : i.fdiv j = fdv i j := by
  unfold fdv
  split
  · exact Int.fdiv_eq_ediv_of_nonneg i (by omega)
  · rfl
def fmd (i j : Int) : Int := if 0 < j then i % j else i.fmod j
theorem fmd_eq (i j : Int) : i.fmod j = fmd i j := by
  unfold fmd
  split
  · exact Int.fmod_eq_emod_of_nonneg i (by omega)
  · rfl
def opDiv : Od → Od → Option Rv
  | .d (.int i), .d (.int j) => if j ≠ 0 ∧ j.natAbs.log2 < 9000 then some (.d (.int (fdv i j))) else none
  | _, _ => none
theorem s_div {K : Fg} : Op2S K (rI (fun _ j => j ≠ 0 ∧ j.natAbs.log2 < 9000) fun i j => .int (i.fdiv j)) opDiv := by
  intro w x y o o' rv Q hx h h' e q
  unfold opDiv at e
  split at e
  · split at e
    · rename_i hm
      cases e
      rw [← fdv_eq] at q
      exact ⟨_, _, h.int, h'.int, hm, post_int q⟩
    · cases e
  · cases e
def opMod : Od → Od → Option Rv
  | .d (.int i), .d (.int j) => if j ≠ 0 then some (.d (.int (fmd i j))) else none
  | _, _ => none
theorem s_mod {K : Fg} : Op2S K (rI (fun _ j => j ≠ 0) fun i j => .int (i.fmod j)) opMod := by
  intro w x y o o' rv Q hx h h' e q
  unfold opMod at e
  split at e
  · split at e
    · rename_i hm
      cases e
      rw [← fmd_eq] at q
      exact ⟨_, _, h.int, h'.int, hm, post_int q⟩
    · cases e
  · cases e
def opPow : Od → Od → Option Rv
  | .d (.int i), .d (.int j) => if 0 ≤ j ∧ j ≤ 1000000 ∧ i.natAbs < 2 ^ 64 then some (.d (.int (i ^ j.toNat))) else none
  | _, _ => none
theorem s_pow {K : Fg} : Op2S K (rI CPow fun i j => .int (i ^ j.toNat)) opPow := by
  intro w x y o o' rv Q hx h h' e q
  unfold opPow at e
  split at e
  · split at e
    · rename_i hm
      cases e
      exact ⟨_, _, h.int, h'.int, hm, post_int q⟩
    · cases e
  · cases e
def opNeg : Od → Option Rv
  | .d (.int i) => some (.d (.int (-i)))
  | _ => none
theorem s_neg {K : Fg} : Op1S K (rU fun i => .int (-i)) opNeg := by
  intro w x o rv Q hx h e q
  unfold opNeg at e
  split at e
  · cases e
    exact ⟨_, h.int, post_int q⟩
  · cases e
/-! ### comparisons -/
/-- data without dicts, not deep -/
def okd (d : D) : Bool := d.plain && decide (d.depth ≤ 60)
theorem okd_iff {d : D} : okd d = true ↔ d.plain = true ∧ d.depth ≤ 60 := by
  unfold okd
  rw [Bool.and_eq_true, decide_eq_true_eq]
def rEqV (K : Fg) (neg : Bool) : R2 := fun x y H Q => ∃ d e, Rp K H x d ∧ Rp K H y e ∧ okd d = true ∧ okd e = true ∧ Q (.bl (if neg then !PyData.eqv d e else PyData.eqv d e)) H
theorem op_eqV (hu : X.A.units + 64 < cLine) : OpR X (compareOp .Eq) (rEqV X.K false) := by
  intro pins s σ H x y v u Q I rx ry h
  obtain ⟨d, e, hd, he, sd, se, q⟩ := h
  obtain ⟨pd, _⟩ := okd_iff.mp sd
  obtain ⟨pe, dl⟩ := okd_iff.mp se
  obtain ⟨as, r1⟩ := Rp.reads I d x v pd hd rx
  obtain ⟨bs, r2⟩ := Rp.reads I e y u pe he ry
  exact SeqAt.eq_plain r1 r2 pd pe (by omega) ⟨.bl _, H, I, rfl, q⟩
theorem op_neV (hu : X.A.units + 64 < cLine) : OpR X (compareOp .NotEq) (rEqV X.K true) := by
  intro pins s σ H x y v u Q I rx ry h
  obtain ⟨d, e, hd, he, sd, se, q⟩ := h
  obtain ⟨pd, _⟩ := okd_iff.mp sd
  obtain ⟨pe, dl⟩ := okd_iff.mp se
  obtain ⟨as, r1⟩ := Rp.reads I d x v pd hd rx
  obtain ⟨bs, r2⟩ := Rp.reads I e y u pe he ry
  exact SeqAt.ne_plain r1 r2 pd pe (by omega) ⟨.bl _, H, I, rfl, q⟩
def eqB : D → D → Option Bool
  | .int i, .int j => some (decide (i = j))
  | x, y => if okd x = true ∧ okd y = true then some (PyData.eqv x y) else none
def opEq : Od → Od → Option Rv
  | .d x, .d y => match eqB x y with
    | some b => some (.d (.bool b))
    | none => none
  | _, _ => none
def opNe : Od → Od → Option Rv
  | .d x, .d y => match eqB x y with
    | some b => some (.d (.bool (!b)))
    | none => none
  | _, _ => none
theorem eqB_ok {x y : D} {b : Bool} (h : eqB x y = some b) : okd x = true ∧ okd y = true ∧ PyData.eqv x y = b := by
  unfold eqB at h
  split at h
  · rename_i i j
    cases h
    refine ⟨rfl, rfl, ?_⟩
    show (i == j) = _
    exact Bool.beq_eq_decide_eq i j
  · split at h
    · rename_i hh
      cases h
      exact ⟨hh.1, hh.2, rfl⟩
    · cases h
theorem s_eq {K : Fg} : Op2S K (rEqV K false) opEq := by
  intro w x y o o' rv Q hx h h' e q
  unfold opEq at e
  split at e
  · split at e
    · rename_i b eb
      cases e
      obtain ⟨h1, h2, h3⟩ := eqB_ok eb
      refine ⟨_, _, h.rp hx, h'.rp hx, h1, h2, ?_⟩
      rw [if_neg (by decide), h3]
      exact post_bool q
    · cases e
  · cases e
theorem s_ne {K : Fg} : Op2S K (rEqV K true) opNe := by
  intro w x y o o' rv Q hx h h' e q
  unfold opNe at e
  split at e
  · split at e
    · rename_i b eb
      cases e
      obtain ⟨h1, h2, h3⟩ := eqB_ok eb
      refine ⟨_, _, h.rp hx, h'.rp hx, h1, h2, ?_⟩
      rw [if_pos rfl, h3]
      exact post_bool q
    · cases e
  · cases e
/-- <, >, <=, >= of data that are alike: f of «the first is less» and «the second is less» -/
def rOrd (K : Fg) (f : Bool → Bool → Bool) : R2 := fun x y H Q => ∃ d e, Rp K H x d ∧ Rp K H y e ∧ okd d = true ∧ okd e = true ∧ alike d e = true ∧ d ≠ .none ∧ Q (.bl (f (dataLt d e) (dataLt e d))) H
theorem op_ltV (hu : X.A.units + 64 < cLine) : OpR X (compareOp .Lt) (rOrd X.K fun a _ => a) := by
  intro pins s σ H x y v u Q I rx ry h
  obtain ⟨d, e, hd, he, sd, se, al, hn, q⟩ := h
  obtain ⟨pd, _⟩ := okd_iff.mp sd
  obtain ⟨pe, dl⟩ := okd_iff.mp se
  obtain ⟨as, r1⟩ := Rp.reads I d x v pd hd rx
  obtain ⟨bs, r2⟩ := Rp.reads I e y u pe he ry
  exact lt_data r1 r2 al hn (by omega) ⟨.bl _, H, I, rfl, q⟩
theorem op_gtV (hu : X.A.units + 64 < cLine) : OpR X (compareOp .Gt) (rOrd X.K fun _ b => b) := by
  intro pins s σ H x y v u Q I rx ry h
  obtain ⟨d, e, hd, he, sd, se, al, hn, q⟩ := h
  obtain ⟨pd, _⟩ := okd_iff.mp sd
  obtain ⟨pe, dl⟩ := okd_iff.mp se
  obtain ⟨as, r1⟩ := Rp.reads I d x v pd hd rx
  obtain ⟨bs, r2⟩ := Rp.reads I e y u pe he ry
  exact gt_data r1 r2 al hn (by omega) ⟨.bl _, H, I, rfl, q⟩
theorem op_geV (hu : X.A.units + 64 < cLine) : OpR X (compareOp .GtE) (rOrd X.K fun a _ => !a) := by
  intro pins s σ H x y v u Q I rx ry h
  obtain ⟨d, e, hd, he, sd, se, al, hn, q⟩ := h
  obtain ⟨pd, _⟩ := okd_iff.mp sd
  obtain ⟨pe, dl⟩ := okd_iff.mp se
  obtain ⟨as, r1⟩ := Rp.reads I d x v pd hd rx
  obtain ⟨bs, r2⟩ := Rp.reads I e y u pe he ry
  exact ge_data r1 r2 al hn (by omega) ⟨.bl _, H, I, rfl, q⟩
def isNone : D → Bool
  | .none => true
  | _ => false
theorem isNone_iff {d : D} : isNone d = false → d ≠ .none := by
  intro h z
  subst z
  cases h
def opOrd (fi : Int → Int → Bool) (f : Bool → Bool → Bool) : Od → Od → Option Rv
  | .d (.int i), .d (.int j) => some (.d (.bool (fi i j)))
  | .d x, .d y => if okd x = true ∧ okd y = true ∧ alike x y = true ∧ isNone x = false then some (.d (.bool (f (dataLt x y) (dataLt y x)))) else none
  | _, _ => none
theorem s_ord {K : Fg} {fi : Int → Int → Bool} {f : Bool → Bool → Bool} : Op2S K (fun x y H Q => rI0 (fun i j => .bl (fi i j)) x y H Q ∨ rOrd K f x y H Q) (opOrd fi f) := by
  intro w x y o o' rv Q hx h h' e q
  unfold opOrd at e
  split at e
  · cases e
    exact .inl ⟨_, _, h.int, h'.int, post_bool q⟩
  · split at e
    · rename_i hh
      cases e
      exact .inr ⟨_, _, h.rp hx, h'.rp hx, hh.1, hh.2.1, hh.2.2.1, isNone_iff hh.2.2.2, post_bool q⟩
    · cases e
  · cases e
abbrev opLt := opOrd (fun i j => decide (i < j)) fun a _ => a
abbrev opLe := opOrd (fun i j => decide (i ≤ j)) fun _ b => !b
abbrev opGt := opOrd (fun i j => decide (j < i)) fun _ b => b
abbrev opGe := opOrd (fun i j => decide (j ≤ i)) fun a _ => !a
/-- is, is not: None, truths -/
def rIsV (neg : Bool) : R2 := fun x y H Q => (y = .non ∧ Q (.bl (if neg then !decide (x = .non) else decide (x = .non))) H) ∨ ∃ a b, x = .bl a ∧ y = .bl b ∧ Q (.bl (if neg then !decide (a = b) else decide (a = b))) H
theorem op_isV : OpR X (compareOp .Is) (rIsV false) := OpR.or op_isN op_isBl
def opIs (neg : Bool) : Od → Od → Option Rv
  | .d x, .d .none => some (.d (.bool (if neg then !isNone x else isNone x)))
  | .c _, .d .none => some (.d (.bool neg))
  | .d (.bool a), .d (.bool b) => some (.d (.bool (if neg then !decide (a = b) else decide (a = b))))
  | _, _ => none
/-! ### items -/
theorem atI_map {K : Fg} {G : Hp} {vs : List V} {ds : List D} {i : Int} {d : D} (r : RpAll K G vs ds) (h : atI ds i = some d) : ∃ v, atI vs i = some v ∧ Rp K G v d := by
  unfold atI at h ⊢
  rw [r.length]
  cases e : ixN ds.length i with
  | none => rw [e] at h; cases h
  | some j =>
    rw [e] at h
    exact r.get h
def rIxV (K : Fg) : R2 := fun x y H Q => (rIxL K) x y H Q ∨ (rIxT K) x y H Q ∨ rIxS x y H Q
theorem IxR.or {r r' : R2} (h : IxR X r) (h' : IxR X r') : IxR X (fun x y H Q => r x y H Q ∨ r' x y H Q) := by
  intro value slice pins s σ H x y v u Q I rx ry hh hs
  rcases hh with hh | hh
  · exact h value slice pins s σ H x y v u Q I rx ry hh hs
  · exact h' value slice pins s σ H x y v u Q I rx ry hh hs
theorem ixr_V : IxR X (rIxV X.K) := IxR.or ix_list (IxR.or ix_tup ix_str)
def opIx : Od → Od → Option Rv
  | .d (.list ds), .d (.int i) => match atI ds i with
    | some d => some (.d d)
    | none => none
  | .d (.tuple ds), .d (.int i) => match atI ds i with
    | some d => some (.d d)
    | none => none
  | .d (.str z), .d (.int i) => if z.length ≤ 16000000 then (match atI z.cps.toList i with
    | some c => some (.d (.str ⟨#[c]⟩))
    | none => none) else none
  | _, _ => none
theorem s_ix {K : Fg} : Op2S K (rIxV K) opIx := by
  intro w x y o o' rv Q hx h h' e q
  unfold opIx at e
  split at e
  · split at e
    · rename_i d ed
      cases e
      obtain ⟨p, vs, rfl, hs, ra⟩ := h.list hx
      obtain ⟨v, ev, rp⟩ := atI_map ra ed
      exact .inl ⟨p, vs, _, v, rfl, h'.int, hs, ev, post_d q rp⟩
    · cases e
  · split at e
    · rename_i d ed
      cases e
      obtain ⟨p, vs, rfl, hs, ra⟩ := h.tup
      obtain ⟨v, ev, rp⟩ := atI_map ra ed
      exact .inr (.inl ⟨p, vs, _, v, rfl, h'.int, SqT.of (hx _ _ hs), ev, post_d q rp⟩)
    · cases e
  · split at e
    · rename_i hl
      split at e
      · rename_i c ec
        cases e
        exact .inr (.inr ⟨_, _, c, h.str, h'.int, sz16 hl, ec, post_str q⟩)
      · cases e
    · cases e
  · cases e
/-! ### built-in functions -/
def rLenV (K : Fg) : V → Hp → VK → Prop := fun v H Q => (∃ p ys, v = .ref p ∧ (SqL K H p ys ∨ SqT K H p ys) ∧ Q (.int ys.length) H) ∨ (∃ z, v = .str z ∧ z.length ≤ sizeLine ∧ Q (.int z.length) H) ∨ ∃ a kvs, v = .ref a ∧ H a = some (.dK kvs) ∧ Q (.int kvs.length) H
theorem call_lenV : CallR X (.builtin "len") (fun xs H Q => ∃ v, xs = [v] ∧ rLenV X.K v H Q) := by
  intro pins s σ H xs us Q I r h
  obtain ⟨v, rfl, h⟩ := h
  rcases h with ⟨p, ys, rfl, h1, h2⟩ | ⟨z, rfl, h1, h2⟩ | ⟨a, kvs, rfl, h1, h2⟩
  · exact call_len_seq pins s σ H _ us Q I r ⟨p, ys, rfl, h1, h2⟩
  · exact call_len_str pins s σ H _ us Q I r ⟨z, rfl, h1, h2⟩
  · exact call_lenD pins s σ H _ us Q I r ⟨a, kvs, rfl, h1, h2⟩
def opLen : Od → Option Rv
  | .d (.list ds) => some (.d (.int ds.length))
  | .d (.tuple ds) => some (.d (.int ds.length))
  | .d (.dict es) => if isTag es = true then none else some (.d (.int es.length))
  | .d (.str z) => if z.length ≤ 16000000 then some (.d (.int z.length)) else none
  | .c (.k kvs) => some (.d (.int kvs.length))
  | _ => none
theorem rpKv_len {K : Fg} {G : Hp} : ∀ {ws : List (L2.Key × V)} {es : List (D × D)}, RpKv K G ws es → ws.length = es.length
  | _, _, .nil => rfl
  | _, _, .cons _ t => congrArg (· + 1) (rpKv_len t)
theorem s_len {K : Fg} : Op1S K (fun v H Q => ∃ v', [v] = [v'] ∧ rLenV K v' H Q) opLen := by
  intro w x o rv Q hx h e q
  refine ⟨x, rfl, ?_⟩
  unfold opLen at e
  split at e
  · cases e
    obtain ⟨p, vs, rfl, hs, ra⟩ := h.list hx
    exact .inl ⟨p, vs, rfl, .inl hs, by rw [ra.length]; exact post_int q⟩
  · cases e
    obtain ⟨p, vs, rfl, hs, ra⟩ := h.tup
    exact .inl ⟨p, vs, rfl, .inr (SqT.of (hx _ _ hs)), by rw [ra.length]; exact post_int q⟩
  · split at e
    · cases e
    · rename_i nt
      cases e
      obtain ⟨p, ws, rfl, hs, ra⟩ := h.dict hx (by simpa using nt)
      exact .inr (.inr ⟨p, ws, rfl, hs, by rw [rpKv_len ra]; exact post_int q⟩)
  · split at e
    · rename_i hl
      cases e
      exact .inr (.inl ⟨_, h.str, sz16 hl, post_int q⟩)
    · cases e
  · cases e
    obtain ⟨p, rfl, ⟨_, ws, hw, ra⟩, _⟩ := h
    exact .inr (.inr ⟨p, ws, rfl, hw, by rw [paired_len ra]; exact post_int q⟩)
  · cases e
def opAbs : Od → Option Rv
  | .d (.int i) => some (.d (.int (if i < 0 then -i else i)))
  | _ => none
theorem s_abs {K : Fg} : Op1S K (fun v H Q => ∃ i, [v] = [V.int i] ∧ Q (.int (if i < 0 then -i else i)) H) opAbs := by
  intro w x o rv Q hx h e q
  unfold opAbs at e
  split at e
  · cases e
    exact ⟨_, by rw [h.int], post_int q⟩
  · cases e
/-- isinstance(x, T) of a built-in class -/
def tyN : Od → String
  | .d .none => "NoneType"
  | .d (.bool _) => "bool"
  | .d (.int _) => "int"
  | .d (.str _) => "str"
  | .d (.list _) => "list"
  | .d (.tuple _) => "tuple"
  | .d (.dict _) => "dict"
  | .c _ => "dict"
def isiB (T : String) (t : String) : Bool := t == T || (t == "bool" && T == "int")
def opIsi (T : String) (o : Od) : Option Rv := match o with
  | .c .gone => none
  | .c (.l _) => none
  | .c (.i _ _ _) => none
  | .c (.g _) => none
  | o => some (.d (.bool (isiB T (tyN o))))
/-- a value's type, a locked dict with tuple keys too -/
inductive TyY (K : Fg) (H : Hp) : V → Value → Prop where
  | x {v : V} {t : Value} (h : TyX K H v t) : TyY K H v t
  | t {a : Addr} {o : Obj} {kvs : List (List L2.Key × V)} (e : H a = some (.frz o (.dT kvs))) : TyY K H (.ref a) (.type "dict")
  | n {a : Addr} {o : Obj} {kas : List (NestedKey × Addr × V)} (e : H a = some (.frz o (NkO kas a))) : TyY K H (.ref a) (.type "dict")
  | f {a : Addr} {o : Obj} {kvs : List (L2.Key × V)} (e : H a = some (.frz o (.dK kvs))) : TyY K H (.ref a) (.type "dict")
theorem kit_ofY {X : Cx} {pins : List (Addr × Obj)} {σ : L2.St} {H : Hp} {s : Shared} {x : V} {u t : Value} (I : Inv X pins σ H s) (rx : RelV x u) (ty : TyY X.K H x t) : ∃ P : Heap → Prop, PySem.W.KitX X.K u t P ∧ P s.heap ∧ u ≠ .builtin "__main__.__loader__#opaque" := by
  cases ty with
  | x h => exact kit_of I rx h
  | @t a ob kvs ea =>
    cases (show u = Value.ref a from rx)
    obtain ⟨_, _, _, vs, _, o, es, ep, h1, h2, _⟩ := (show ObjOk X.prog X.w H s.heap a (.frz ob (.dT kvs)) from I.hok a _ ea)
    exact ⟨_, PySem.W.kitx_dict, ⟨o, h1, h2.1⟩, fun z => nomatch z⟩
  | @n a ob kas ea =>
    cases (show u = Value.ref a from rx)
    obtain ⟨h0, ⟨o, es, ep, xs, h1, h2, _⟩, _⟩ := (show ObjOk X.prog X.w H s.heap a (.frz ob (NkO kas a)) from I.hok a _ ea)
    exact ⟨_, PySem.W.kitx_dict, ⟨o, h1, h2.1⟩, fun z => nomatch z⟩
  | @f a ob kvs ea =>
    cases (show u = Value.ref a from rx)
    obtain ⟨_, _, _, vs, _, o, es, ep, h1, h2, _⟩ := (show ObjOk X.prog X.w H s.heap a (.frz ob (.dK kvs)) from I.hok a _ ea)
    exact ⟨_, PySem.W.kitx_dict, ⟨o, h1, h2.1⟩, fun z => nomatch z⟩
def rIsiY (K : PySem.W.Frag) : List V → Hp → VK → Prop := fun xs H Q => ∃ (x c : V) (t u : Value) (b : Bool), xs = [x, c] ∧ ClsV c u ∧ TyY K H x t ∧ PySem.W.kitOne K t u = some b ∧ Q (.bl b) H
theorem call_isiY {X : Cx} : CallR X (.builtin "isinstance") (rIsiY X.K) := by
  intro pins s σ H xs us Q I r h
  obtain ⟨x, c, t, u, b, rfl, k, ty, e, q⟩ := h
  obtain ⟨u1, u2, rfl, r1, r2⟩ := vals2 r
  have e2 := k.eq r2
  subst e2
  obtain ⟨P, Z, p, hx⟩ := kit_ofY I r1 ty
  exact PySem.W.kia_one Z I.kIn p e hx fun tk => ⟨.bl b, H, I.tok tk, rfl, q⟩
theorem ty_of {K : Fg} {w : Wd} {x : V} {o : Od} (hx : Same w.G w.H) (h : OdOk K w x o) (h1 : o ≠ .c .gone) (h2 : ∀ l, o ≠ .c (.l l)) (h3 : ∀ n j l, o ≠ .c (.i n j l)) (h4 : ∀ x, o ≠ .c (.g x)) : TyY K w.H x (.type (tyN o)) := by
  cases o with
  | c c =>
    obtain ⟨p, rfl, hc, _⟩ := h
    cases c with
    | l l => exact absurd rfl (h2 l)
    | gone => exact absurd rfl h1
    | k kvs =>
      obtain ⟨_, ws, hw, _⟩ := hc
      exact .x (.base (.dK hw))
    | t kvs =>
      obtain ⟨_, ws, hw, _⟩ := hc
      exact .x (.base (.dT hw))
    | r ks =>
      obtain ⟨_, ws, hw, _⟩ := hc
      exact .x (.base (.dT hw))
    | i n j l => exact absurd rfl (h3 n j l)
    | g x => exact absurd rfl (h4 x)
  | d d =>
    cases d with
    | none => rw [h.none]; exact .x (.base .non)
    | bool b => rw [h.bool]; exact .x (.base (.bl b))
    | int b => rw [h.int]; exact .x (.base (.int b))
    | str b => rw [h.str]; exact .x (.base (.str b))
    | list ds =>
      obtain ⟨p, vs, rfl, hs, _⟩ := h.list hx
      rcases hs with (hs | ⟨o, hs⟩) | ⟨o, its, n, hk, hc, _⟩
      · exact .x (.base (.lst hs))
      · exact .x (.base (.frz hs))
      · exact .x (.kList hk hc)
    | tuple ds =>
      obtain ⟨p, vs, rfl, hs, _⟩ := h.tup
      exact .x (.base (.tup (hx _ _ hs)))
    | dict es =>
      rcases h with h | ⟨p, vs, ds, rfl, e, hv, ra⟩
      · cases h with
        | dct a b => exact .x (.base (.dK (hx _ _ a)))
        | dctT a b => exact .t (hx _ _ a)
        | dctN a g b => exact .n (hx _ _ a)
        | dctF a b => exact .f (hx _ _ a)
      · cases e
def isiT (T : String) : Bool := ["NoneType", "bool", "int", "str", "list", "tuple", "dict"].all fun t => decide (kitB t T = some (isiB T t))
theorem isiT_ok {T : String} (h : isiT T = true) (o : Od) : kitB (tyN o) T = some (isiB T (tyN o)) := by
  have h := List.all_eq_true.mp h
  have m : tyN o ∈ ["NoneType", "bool", "int", "str", "list", "tuple", "dict"] := by
    unfold tyN
    split <;> simp
  exact of_decide_eq_true (h _ m)
theorem s_isi {K : Fg} {T : String} (hT : isiT T = true) : Op1S K (fun v H Q => rIsiY K [v, .ty T] H Q) (opIsi T) := by
  intro w x o rv Q hx h e q
  unfold opIsi at e
  have go : (o ≠ .c .gone) → (∀ l, o ≠ .c (.l l)) → (∀ n j l, o ≠ .c (.i n j l)) → (∀ x, o ≠ .c (.g x)) → some (Rv.d (.bool (isiB T (tyN o)))) = some rv → rIsiY K [x, .ty T] w.H Q := fun h1 h2 h3 h4 e => by
    cases e
    exact ⟨x, .ty T, .type (tyN o), .type T, isiB T (tyN o), rfl, .ty T, ty_of hx h h1 h2 h3 h4, kit_ty (isiT_ok hT o), post_bool q⟩
  split at e
  · cases e
  · cases e
  · cases e
  · cases e
  · rename_i h1 h2 h3 h4
    exact go h1 h2 h3 h4 e
theorem e_isi {ec : EC} {W : WX} {T : String} {x : Str} {a : Expr} {ca : CE} {p p2 pos : Pos} (hm : X.mg "isinstance" = none) (hT : X.mg x = none) (hv : bootBuiltins x = some (.type T)) (ht : isiT T = true) (ha : Ex X ec W a ca)
    (hg : Gl X "isinstance" := by rfl) (hg2 : Gl X x := by rfl) (hn : x ≠ "__name__" := by decide) (hd : (x == ("__debug__" : Str)) = false := by decide) (h0 : starEach [Expr.Name x p2] X.env = (false, eval (Expr.Name x p2) X.env) :: starEach [] X.env := by rfl)
    (h1 : starEach [a, .Name x p2] X.env = (false, eval a X.env) :: starEach [.Name x p2] X.env := by rfl) (h2 : (backTo pos (starEach [Expr.Name x p2] X.env)).any (·.1) = false := by rfl) : Ex X ec W (.Call (.Name "isinstance" p) [a, .Name x p2] [] pos) (cOp1 (opIsi T) ca) :=
  (pe_callB call_isiY hg hm boot_isinstance (pa_cons ha (pa_cons (pe_bltn (v := .ty T) hg2 hT hv rfl hn hd) pa_nil h0) h1) (by decide) (by decide) h1 h2).imp fun _ _ _ h => op1 (s_isi ht) h
/-- all, any of a list of truths -/
def opAll : Od → Option Rv
  | .d (.list ds) => match bools? ds with
    | some bs => some (.d (.bool (bs.all id)))
    | none => none
  | _ => none
theorem s_all {K : Fg} : Op1S K (fun v => rAll K [v]) opAll := by
  intro w x o rv Q hx h e q
  unfold opAll at e
  split at e
  · split at e
    · rename_i bs eb
      cases e
      rw [bools?_eq eb] at h
      obtain ⟨p, vs, rfl, hs, ra⟩ := h.list hx
      rw [rp_bools ra] at hs
      exact ⟨p, bs, rfl, hs, post_bool q⟩
    · cases e
  · cases e
def opSum : Od → Option Rv
  | .d (.list ds) => match ints? ds with
    | some ns => some (.d (.int ns.sum))
    | none => none
  | .d (.tuple ds) => match ints? ds with
    | some ns => some (.d (.int ns.sum))
    | none => none
  | _ => none
/-- tuple(x), list(x) of a list, a tuple -/
def opTuple : Od → Option Rv
  | .d (.list ds) => some (.d (.tuple ds))
  | .d (.tuple ds) => some (.d (.tuple ds))
  | _ => none
theorem s_tuple {K : Fg} : Op1S K (fun v H Q => ∃ p ys, [v] = [V.ref p] ∧ ((SqL K H p ys ∧ ∀ l, H l = none → Q (.ref l) (upd H l (.tup ys))) ∨ (SqT K H p ys ∧ Q (.ref p) H))) opTuple := by
  intro w x o rv Q hx h e q
  unfold opTuple at e
  split at e
  · cases e
    obtain ⟨p, vs, rfl, hs, ra⟩ := h.list hx
    exact ⟨p, vs, rfl, .inl ⟨hs, fun l hl => post_tup q ra hl hx⟩⟩
  · cases e
    obtain ⟨p, vs, rfl, hs, ra⟩ := h.tup
    exact ⟨p, vs, rfl, .inr ⟨SqT.of (hx _ _ hs), post_d q (.tup hs ra)⟩⟩
  · cases e
def opList : Od → Option Rv
  | .d (.list ds) => some (.new (.l ds))
  | .d (.tuple ds) => some (.new (.l ds))
  | _ => none
def opInt : Od → Option Rv
  | .d (.int i) => some (.d (.int i))
  | .d (.bool k) => some (.d (.int (if k then 1 else 0)))
  | _ => none
theorem s_int {K : Fg} : Op1S K (fun v H Q => (∃ i, [v] = [V.int i] ∧ Q (.int i) H) ∨ ∃ k, [v] = [V.bl k] ∧ Q (.int (if k then 1 else 0)) H) opInt := by
  intro w x o rv Q hx h e q
  unfold opInt at e
  split at e
  · cases e
    exact .inl ⟨_, by rw [h.int], post_int q⟩
  · cases e
    exact .inr ⟨_, by rw [h.bool], post_int q⟩
  · cases e
def opMax2 : Od → Od → Option Rv
  | .d (.int i), .d (.int j) => some (.d (.int (if j > i then j else i)))
  | _, _ => none
def opMin2 : Od → Od → Option Rv
  | .d (.int i), .d (.int j) => some (.d (.int (if j < i then j else i)))
  | _, _ => none
end
end Vm
namespace Vm
open PySem L2
/-! ### statements -/
inductive Out where
  | nx (s : S)
  | rt (a : Rv) (s : S)
  | bk (s : S)
  | ct (s : S)
  | ex (e : String) (s : S)
  | bad
abbrev CS := S → Out
def R.out {α : Type} (r : R α) (k : α → S → Out) : Out := match r with
  | .ok a s => k a s
  | .ex e s => .ex e s
  | .bad => .bad
def okX (K : Fg) (ec : EC) (W : WX) (w : Wd) : String → S → Prop := fun e s' => ∀ σ' w', Le w w' → Rel ec K w' σ' s' → W (.ref (ec e)) none σ' w'.H
def OOk (K : Fg) (ec : EC) (W : WX) (D : Ends) (w : Wd) : Out → Prop
  | .nx s' => ∀ σ' w', Le w w' → Rel ec K w' σ' s' → D.nx σ' w'.H
  | .rt a s' => ∀ x σ' w', Le w w' → Rel ec K w' σ' s' → RvOk K w' x a → FrR w x a → D.rt x w'.H
  | .bk s' => ∀ σ' w', Le w w' → Rel ec K w' σ' s' → D.bk σ' w'.H
  | .ct s' => ∀ σ' w', Le w w' → Rel ec K w' σ' s' → D.ct σ' w'.H
  | .ex e s' => okX K ec W w e s'
  | .bad => False
def rdS (K : Fg) (ec : EC) (W : WX) (c : CS) : TS := fun D σ H => ∃ w s, w.H = H ∧ Rel ec K w σ s ∧ OOk K ec W D w (c s)
abbrev Sx (X : Cx) (ec : EC) (W : WX) (st : Stmt) (c : CS) : Prop := PS X st (rdS X.K ec W c)
abbrev Bx (X : Cx) (ec : EC) (W : WX) (st : List Stmt) (c : CS) : Prop := PSs X st (rdS X.K ec W c)
section
variable {K : Fg} {ec : EC} {W : WX} {σ : St} {w w1 : Wd} {s : S} {D : Ends}
theorem okX_le {e : String} {s' : S} (a : Le w w1) (h : okX K ec W w e s') : okX K ec W w1 e s' := fun σ' w' b r => h σ' w' (a.trans b) r
theorem okX_E {e : String} {s' : S} (h : okX K ec W w e s') : okE K ec W σ w e s' := fun w' b r => h σ w' b r
theorem OOk.le {o : Out} (a : Le w w1) (h : OOk K ec W D w o) : OOk K ec W D w1 o := by
  cases o with
  | nx s' => exact fun σ' w' b r => h σ' w' (a.trans b) r
  | rt x s' => exact fun y σ' w' b r o f => h y σ' w' (a.trans b) r o (f.back a b o)
  | bk s' => exact fun σ' w' b r => h σ' w' (a.trans b) r
  | ct s' => exact fun σ' w' b r => h σ' w' (a.trans b) r
  | ex e s' => exact okX_le a h
  | bad => exact h
/-- an expression's run within a statement -/
theorem run_e {c : CE} {k : Rv → S → Out} (hr : Rel ec K w σ s) (h : OOk K ec W D w ((c s).out k)) {Q : VK} (hk : ∀ x w1 s1 a, Le w w1 → Rel ec K w1 σ s1 → RvOk K w1 x a → FrR w x a → OOk K ec W D w (k a s1) → Q x w1.H) : rd K ec W c σ w.H Q := by
  refine ⟨w, s, rfl, hr, ?_⟩
  cases e : c s with
  | bad => rw [e] at h; exact h
  | ex n s' => rw [e] at h; exact okX_E h
  | ok a s' =>
    rw [e] at h
    exact fun x w' le r o f => hk x w' s' a le r o f h
/-- .. of a value that became data, or is a cell -/
theorem run_ev {c : CE} {k : Rv → S → Out} (hr : Rel ec K w σ s) (h : OOk K ec W D w ((cv c s).out k)) {Q : VK} (hk : ∀ x w1 s1 a, Le w w1 → Rel ec K w1 σ s1 → RvOk K w1 x a → (∀ c, a ≠ .new c) → OOk K ec W D w (k a s1) → Q x w1.H) : rd K ec W c σ w.H Q := by
  refine ⟨w, s, rfl, hr, ?_⟩
  unfold cv at h
  cases e : c s with
  | bad => rw [e] at h; exact h
  | ex n s' => rw [e] at h; exact okX_E h
  | ok rv s' =>
    rw [e] at h
    intro x w' le r' ok _
    cases rv with
    | d y => exact hk x w' s' (.d y) le r' ok (by intro c z; cases z) h
    | ref n => exact hk x w' s' (.ref n) le r' ok (by intro c z; cases z) h
    | t b es => exact hk x w' s' (.t b es) le r' ok (by intro c z; cases z) h
    | new cc =>
      cases ed : cc.D? with
      | none =>
        simp only [R.bind, R.out, ed] at h
        exact h.elim
      | some d =>
        simp only [R.bind, R.out, ed] at h
        obtain ⟨G', r2, le2, rp⟩ := freeze r' ok (d := d) ed
        exact hk x ⟨G', w'.r, w'.F, w'.H⟩ s' (.d d) (le.trans le2) r2 rp (by intro c z; cases z) h
theorem run_tS {c : CT} {k : Bool → S → Out} (hr : Rel ec K w σ s) (h : OOk K ec W D w ((c s).out k)) {Q : Bool → Hp → Prop} (hk : ∀ b w1 s1, Le w w1 → Rel ec K w1 σ s1 → OOk K ec W D w (k b s1) → Q b w1.H) : rdT K ec W c σ w.H Q := by
  refine ⟨w, s, rfl, hr, ?_⟩
  cases e : c s with
  | bad => rw [e] at h; exact h
  | ex n s' => rw [e] at h; exact okX_E h
  | ok a s' =>
    rw [e] at h
    exact fun w' le r => hk a w' s' le r h
end
section
variable {X : Cx} {ec : EC} {W : WX}
def cNx : CS := fun s => .nx s
theorem b_nil : Bx X ec W [] cNx := pss_nil.imp fun D σ H h => by
  obtain ⟨w, s, rfl, hr, h⟩ := h
  exact h σ w (Le.refl w) hr
def cBk : CS := fun s => .bk s
def cCt : CS := fun s => .ct s
def cSeq (a b : CS) : CS := fun s => match a s with
  | .nx s1 => b s1
  | o => o
theorem b_cons {st : Stmt} {r : List Stmt} {a b : CS} (ha : Sx X ec W st a) (hb : Bx X ec W r b) : Bx X ec W (st :: r) (cSeq a b) := (pss_cons ha hb).imp fun D σ H h => by
  obtain ⟨w, s, rfl, hr, h⟩ := h
  refine ⟨w, s, rfl, hr, ?_⟩
  unfold cSeq at h
  cases e : a s with
  | nx s1 =>
    rw [e] at h
    exact fun σ' w' le r' => ⟨w', s1, rfl, r', h.le le⟩
  | rt x s1 => rw [e] at h; exact h
  | bk s1 => rw [e] at h; exact h
  | ct s1 => rw [e] at h; exact h
  | ex n s1 => rw [e] at h; exact h
  | bad => rw [e] at h; exact h
theorem b_one {st : Stmt} {a : CS} (ha : Sx X ec W st a) : Bx X ec W [st] a := pss_one ha
def cExp (c : CE) : CS := fun s => (c s).out fun _ s1 => .nx s1
theorem s_expr {e : Expr} {c : CE} {pos : Pos} (h : Ex X ec W e c) (hs : swapsWith e none pos.line X.env = pure false := by rfl) : Sx X ec W (.Expr e pos) (cExp c) := (ps_expr h hs).imp fun D σ H h => by
  obtain ⟨w, s, rfl, hr, h⟩ := h
  exact run_e hr h fun x w1 s1 a le r o f h1 => h1 σ w1 le r
def cRet (c : CE) : CS := fun s => (c s).out fun a s1 => .rt a s1
theorem s_ret {e : Expr} {c : CE} {pos : Pos} (h : Ex X ec W e c) : Sx X ec W (.Return (some e) pos) (cRet c) := (ps_ret h).imp fun D σ H h => by
  obtain ⟨w, s, rfl, hr, h⟩ := h
  exact run_e hr h fun x w1 s1 a le r o f h1 => h1 x σ w1 le r o f
def cRetN : CS := fun s => .rt (.d .none) s
def cIfS (t : CT) (a b : CS) : CS := fun s => (t s).out fun x s1 => if x = true then a s1 else b s1
theorem s_if {t : Expr} {a b : List Stmt} {ct : CT} {ca cb : CS} {pos : Pos} (ht : Tx X ec W t ct) (ha : Bx X ec W a ca) (hb : Bx X ec W b cb) : Sx X ec W (.If t a b pos) (cIfS ct ca cb) := (ps_if ht ha hb).imp fun D σ H h => by
  obtain ⟨w, s, rfl, hr, h⟩ := h
  refine run_tS hr h fun x w1 s1 le r h1 => ?_
  cases x with
  | true => exact iteT ⟨w1, s1, rfl, r, h1.le le⟩
  | false => exact iteF ⟨w1, s1, rfl, r, h1.le le⟩
/-! ### storing names -/
theorem Rel.set {K : Fg} {w : Wd} {σ : St} {s : S} (r : Rel ec K w σ s) (i : Nat) {x : V} {sl : Sl} (h : SlOk ec K w (some (some x)) sl) : Rel ec K w (σ.set i (some x)) ⟨s.v.set i sl, s.m⟩ := by
  refine ⟨r.mem, by show (σ.set i (some x)).length = (s.v.set i sl).length; rw [List.length_set, List.length_set, r.len], fun j y e => ?_⟩
  have e : (s.v.set i sl)[j]? = some y := e
  by_cases hj : i = j
  · subst hj
    by_cases hl : i < s.v.length
    · rw [List.getElem?_set_self hl] at e
      cases e
      rw [List.getElem?_set_self (by rw [r.len]; exact hl)]
      exact h
    · rw [List.getElem?_eq_none (by rw [List.length_set]; omega)] at e
      cases e
  · rw [List.getElem?_set_ne hj] at e
    rw [List.getElem?_set_ne hj]
    exact r.slot j y e
def slOf : Rv → Option Sl
  | .d x => some (.d x)
  | .ref n => some (.c n)
  | .t b es => some (.t b es)
  | .new _ => none
theorem slOf_ok {K : Fg} {w : Wd} {x : V} {a : Rv} {sl : Sl} (h : RvOk K w x a) (e : slOf a = some sl) : SlOk ec K w (some (some x)) sl := by
  cases a with
  | d y =>
    cases e
    exact ⟨x, rfl, h⟩
  | ref n =>
    cases e
    obtain ⟨p, rfl, q⟩ := h
    exact ⟨p, rfl, q⟩
  | t b es =>
    cases e
    exact ⟨x, rfl, h⟩
  | new c => cases e
/-- name = e: data, or another name of a cell -/
def cSet (i : Nat) (c : CE) : CS := fun s => (cv c s).out fun a s1 => match slOf a with
  | some sl => .nx ⟨s1.v.set i sl, s1.m⟩
  | none => .bad
theorem rd_set {K : Fg} {σ : St} {H : Hp} {D : Ends} {i : Nat} {c : CE} (h : rdS K ec W (cSet i c) D σ H) : tAsg (rd K ec W c) (gName i) D σ H := by
  obtain ⟨w, s, rfl, hr, h⟩ := h
  refine run_ev hr h fun x w1 s1 a le r o hn h1 => ?_
  cases e : slOf a with
  | none => simp only [e] at h1; exact h1.elim
  | some sl =>
    simp only [e] at h1
    exact h1 _ w1 le (r.set i (slOf_ok o e))
theorem s_set (i : Nat) {x : Str} {e : Expr} {c : CE} {pos' pos : Pos} (hN : X.N.Nodup) (h : Ex X ec W e c) (hi : X.N[i]? = some x := by rfl) (hx : Loc X.env.scope x := by first | exact Or.inl rfl | exact Or.inr rfl) (hs : swapsWith e (some (.Name x pos')) pos.line X.env = pure false := by rfl) (hf : X.fn x = true ∨ X.env.scope.names.lookup x = some .local := by first | exact .inl rfl | exact .inr rfl) :
    Sx X ec W (.Assign [.Name x pos'] e pos) (cSet i c) := (ps_set hN hi hx h hs hf).imp fun D σ H h => rd_set h
/-- name = e, a new mutable object -/
def cSetM (i : Nat) (c : CE) : CS := fun s => (c s).out fun a s1 => match a with
  | .new .gone => .bad
  | .new (.i _ _ _) => .bad
  | .new (.g (.o _ _)) => .bad
  | .new (.g (.w _)) => .bad
  | .new cell => .nx ⟨s1.v.set i (.c s1.m.length), s1.m ++ [cell]⟩
  | .ref n => .nx ⟨s1.v.set i (.c n), s1.m⟩
  | .t b es => .nx ⟨s1.v.set i (.t b es), s1.m⟩
  | .d _ => .bad
def Cell.noO : Cell → Bool
  | .g (.o _ _) => false
  | .g (.w _) => false
  | _ => true
theorem lkO_noO {r : List Addr} {t : Nat} {p : Addr} {H : Hp} {x : GX} (h : (Cell.g x).noO = true) : LkO ec r t p H x := by
  cases x with
  | n _ => trivial
  | kl _ => trivial
  | o C fs => cases h
  | w fs => cases h
theorem nv_in {w : Wd} {m : List Cell} {p : Addr} {c : Cell} (hl : w.r.length = m.length) (hc : ∀ n j ds, c ≠ .i n j ds) (h : NV ec w m) (ho : c.noO = true) : NV ec ⟨w.G, w.r ++ [p], w.F, w.H⟩ (m ++ [c]) := by
  refine ⟨⟨fun t q n j ds e1 e2 => ?_, fun t q x e1 e2 => ?_⟩, h.2⟩
  · have e1 : (w.r ++ [p])[t]? = some q := e1
    by_cases ht : t < m.length
    · rw [List.getElem?_append_left ht] at e2
      rw [List.getElem?_append_left (by omega)] at e1
      obtain ⟨h1, h2⟩ := h.1.1 t q n j ds e1 e2
      refine ⟨h1, fun p' ks e3 e4 => ?_⟩
      have e3 : (w.r ++ [p])[n]? = some p' := e3
      rw [List.getElem?_append_left (by omega)] at e3
      rw [List.getElem?_append_left (by omega)] at e4
      exact h2 p' ks e3 e4
    · rw [List.getElem?_append_right (by omega)] at e2
      cases hk : t - m.length with
      | zero =>
        rw [hk] at e2
        exact absurd (Option.some.inj e2) (hc n j ds)
      | succ k =>
        rw [hk] at e2
        cases e2
  · have e1 : (w.r ++ [p])[t]? = some q := e1
    by_cases ht : t < m.length
    · rw [List.getElem?_append_left ht] at e2
      rw [List.getElem?_append_left (by omega)] at e1
      refine (h.1.2 t q x e1 e2).mono (fun k p' hk z => ?_) fun _ _ z => z
      show (w.r ++ [p])[k]? = some p'
      rw [List.getElem?_append_left (by omega)]
      exact z
    · rw [List.getElem?_append_right (by omega)] at e2
      cases hk : t - m.length with
      | zero =>
        rw [hk] at e2
        have e3 : c = .g x := Option.some.inj e2
        rw [e3] at ho
        exact lkO_noO ho
      | succ k =>
        rw [hk] at e2
        cases e2
theorem cell_in {K : Fg} {w w1 : Wd} {σ : St} {s : S} {p : Addr} {c : Cell} (hg : c ≠ .gone) (hni : ∀ n j ds, c ≠ .i n j ds) (i0 : Le ec.w (w.f ec.w.F)) (le : Le w w1) (r : Rel ec K w1 σ s) (hp : p ∉ w1.r ∧ ¬ w1.F p) (hf : w.H p = none) (hc : COk K w1.G w1.H p c) (ho : c.noO = true := by rfl) :
    Rel ec K ⟨w1.G, w1.r ++ [p], w1.F, w1.H⟩ σ ⟨s.v, s.m ++ [c]⟩ ∧ Le w ⟨w1.G, w1.r ++ [p], w1.F, w1.H⟩ := by
  have l2 : Le w ⟨w1.G, w1.r ++ [p], w1.F, w1.H⟩ := ⟨le.g, le.k, le.p.trans (List.prefix_append _ _), fun q hq => by
    have hq : q ∈ w1.r ++ [p] := hq
    rcases List.mem_append.mp hq with m | m
    · exact le.f q m
    · rw [List.mem_singleton.mp m]
      exact .inr hf, le.s, le.z⟩
  refine ⟨⟨⟨r.mem.ext, ?_, ?_, fun n q c' h1 h2 => ?_, fun q hq => ?_, r.mem.tab, i0.trans (l2.ch _), r.mem.gt, nv_in r.mem.len hni r.mem.nv ho⟩, r.len, fun i sl e => ?_⟩, l2⟩
  · show (w1.r ++ [p]).length = (s.m ++ [c]).length
    rw [List.length_append, List.length_append, r.mem.len]
    rfl
  · show (w1.r ++ [p]).Nodup
    refine List.nodup_append.mpr ⟨r.mem.nd, by simp, fun a ha b hb e => ?_⟩
    rw [List.mem_singleton.mp hb] at e
    exact hp.1 (e ▸ ha)
  · have h1 : (w1.r ++ [p])[n]? = some q := h1
    have h2 : (s.m ++ [c])[n]? = some c' := h2
    by_cases hn : n < w1.r.length
    · rw [List.getElem?_append_left hn] at h1
      rw [List.getElem?_append_left (by rw [← r.mem.len]; exact hn)] at h2
      exact r.mem.cell n q c' h1 h2
    · rw [List.getElem?_append_right (by omega)] at h1
      rw [List.getElem?_append_right (by rw [← r.mem.len]; omega)] at h2
      rw [r.mem.len] at h1
      cases hk : n - s.m.length with
      | zero =>
        rw [hk] at h1 h2
        cases h1
        cases h2
        exact hc
      | succ k =>
        rw [hk] at h1
        cases h1
  · obtain ⟨a, b, c'⟩ := r.mem.fo q hq
    refine ⟨a, fun m => ?_, c'⟩
    have m : q ∈ w1.r ++ [p] := m
    rcases List.mem_append.mp m with m | m
    · exact b m
    · rw [List.mem_singleton.mp m] at hq
      exact hp.2 hq
  · have q := r.slot i sl e
    cases sl with
    | u => trivial
    | d x => exact q
    | c n =>
      obtain ⟨p', e1, e2⟩ := q
      refine ⟨p', e1, ?_⟩
      show (w1.r ++ [p])[n]? = some p'
      rw [List.getElem?_append_left (List.getElem?_eq_some_iff.mp e2).1]
      exact e2
    | f => exact q
    | f2 => exact q
    | t b es =>
      obtain ⟨v, e1, z⟩ := q
      refine ⟨v, e1, z.mono (Same.refl _) fun k p' h => ?_⟩
      show (w1.r ++ [p])[k]? = some p'
      rw [List.getElem?_append_left (List.getElem?_eq_some_iff.mp h).1]
      exact h
    | x n =>
      obtain ⟨z1, a, z2, z3, z4⟩ := q
      refine ⟨z1, a, z2, fun m => ?_, z4⟩
      have m : a ∈ w1.r ++ [p] := m
      rcases List.mem_append.mp m with m | m
      · exact z3 m
      · have ea := List.mem_singleton.mp m
        subst ea
        unfold ExO at z4
        cases c with
        | gone => exact hg rfl
        | l ds =>
          obtain ⟨_, _, hv, _⟩ := hc
          rw [z4] at hv
          cases hv
        | k ds =>
          obtain ⟨_, _, hv, _⟩ := hc
          rw [z4] at hv
          cases hv
        | t ds =>
          obtain ⟨_, _, hv, _⟩ := hc
          rw [z4] at hv
          cases hv
        | r ds =>
          obtain ⟨_, _, hv, _⟩ := hc
          rw [z4] at hv
          cases hv
        | i n' j' ds =>
          obtain ⟨_, _, hv, _⟩ := hc
          rw [z4] at hv
          cases hv
        | g x =>
          obtain ⟨_, o1, hv, q1⟩ := hc
          rw [z4] at hv
          exact q1.noX.2 _ _ (Option.some.inj hv).symm
theorem rd_setM {K : Fg} {σ : St} {H : Hp} {D : Ends} {i : Nat} {c : CE} (h : rdS K ec W (cSetM i c) D σ H) : tAsg (rd K ec W c) (gName i) D σ H := by
  obtain ⟨w, s, rfl, hr, h⟩ := h
  refine run_e hr h fun x w1 s1 a le r o f h1 => ?_
  have go : ∀ cell, a = .new cell → cell ≠ .gone → (∀ n j ds, cell ≠ .i n j ds) → cell.noO = true → OOk K ec W D w (.nx ⟨s1.v.set i (.c s1.m.length), s1.m ++ [cell]⟩) → D.nx (σ.set i (some x)) w1.H := fun cell ea hg hni ho h2 => by
    subst ea
    obtain ⟨p, rfl, hp, hc⟩ := o
    obtain ⟨r2, l2⟩ := cell_in hg hni hr.mem.inv le r hp (f _ rfl p rfl) hc ho
    refine h2 _ ⟨w1.G, w1.r ++ [p], w1.F, w1.H⟩ l2 (r2.set i (x := .ref p) (sl := .c s1.m.length) ⟨p, rfl, ?_⟩)
    show (w1.r ++ [p])[s1.m.length]? = some p
    rw [← r.mem.len, List.getElem?_append_right (Nat.le_refl _), Nat.sub_self]
    rfl
  cases a with
  | d y => exact h1.elim
  | ref n => exact h1 _ w1 le (r.set i (slOf_ok (a := .ref n) o rfl))
  | t b es => exact h1 _ w1 le (r.set i (slOf_ok (a := .t b es) o rfl))
  | new cell =>
    cases cell with
    | gone => exact h1.elim
    | l ds => exact go _ rfl (by intro z; cases z) (by intro _ _ _ z; cases z) rfl h1
    | k ds => exact go _ rfl (by intro z; cases z) (by intro _ _ _ z; cases z) rfl h1
    | t ds => exact go _ rfl (by intro z; cases z) (by intro _ _ _ z; cases z) rfl h1
    | r ds => exact go _ rfl (by intro z; cases z) (by intro _ _ _ z; cases z) rfl h1
    | i n j ds => exact h1.elim
    | g x =>
      cases x with
      | n _ => exact go _ rfl (by intro z; cases z) (by intro _ _ _ z; cases z) rfl h1
      | kl _ => exact go _ rfl (by intro z; cases z) (by intro _ _ _ z; cases z) rfl h1
      | o _ _ => exact h1.elim
      | w _ => exact h1.elim
theorem s_setM (i : Nat) {x : Str} {e : Expr} {c : CE} {pos' pos : Pos} (hN : X.N.Nodup) (h : Ex X ec W e c) (hi : X.N[i]? = some x := by rfl) (hx : Loc X.env.scope x := by first | exact Or.inl rfl | exact Or.inr rfl) (hs : swapsWith e (some (.Name x pos')) pos.line X.env = pure false := by rfl) (hf : X.fn x = true ∨ X.env.scope.names.lookup x = some .local := by first | exact .inl rfl | exact .inr rfl) :
    Sx X ec W (.Assign [.Name x pos'] e pos) (cSetM i c) := (ps_set hN hi hx h hs hf).imp fun D σ H h => rd_setM h
/-! ### targets -/
/-- slots but those at own are as they were -/
def Off (own : List Nat) (σ σ' : St) : Prop := σ'.length = σ.length ∧ ∀ j, j ∉ own → σ'[j]? = σ[j]?
theorem Off.refl (own : List Nat) (σ : St) : Off own σ σ := ⟨rfl, fun _ _ => rfl⟩
theorem Off.trans {own : List Nat} {σ σ1 σ2 : St} (a : Off own σ σ1) (b : Off own σ1 σ2) : Off own σ σ2 := ⟨b.1.trans a.1, fun j h => (b.2 j h).trans (a.2 j h)⟩
abbrev Tg := D → S → Option S
abbrev Tgs := List D → S → Option S
def rdG (ec : EC) (K : Fg) (own : List Nat) (tg : Tg) : TG := fun v σ H Q => ∃ w s d, w.H = H ∧ Rel ec K w σ s ∧ Rp K w.G v d ∧ ∃ s', tg d s = some s' ∧ ∀ σ', Off own σ σ' → Rel ec K w σ' s' → Q σ' H
def rdGs (ec : EC) (K : Fg) (own : List Nat) (tg : Tgs) : TGs := fun vs σ H Q => ∃ w s ds, w.H = H ∧ Rel ec K w σ s ∧ RpAll K w.G vs ds ∧ ∃ s', tg ds s = some s' ∧ ∀ σ', Off own σ σ' → Rel ec K w σ' s' → Q σ' H
theorem PG.imp {X : Cx} {e : Expr} {t t' : TG} (h : PG X e t) (i : ∀ v σ H Q, t' v σ H Q → t v σ H Q) : PG X e t' := ⟨fun pins s σ H v u Q I r q => h.run pins s σ H v u Q I r (i _ _ _ _ q)⟩
theorem PGs.imp {X : Cx} {es : List Expr} {t t' : TGs} (h : PGs X es t) (i : ∀ v σ H Q, t' v σ H Q → t v σ H Q) : PGs X es t' := ⟨fun pins s σ H v u Q I r q => h.run pins s σ H v u Q I r (i _ _ _ _ q)⟩
def tgN (i : Nat) : Tg := fun d s => some ⟨s.v.set i (.d d), s.m⟩
theorem g_name (i : Nat) {own : List Nat} {x : Str} {pos : Pos} (hN : X.N.Nodup) (ho : i ∈ own) (hi : X.N[i]? = some x := by rfl) (hx : Loc X.env.scope x := by first | exact Or.inl rfl | exact Or.inr rfl) (hf : X.fn x = true ∨ X.env.scope.names.lookup x = some .local := by first | exact .inl rfl | exact .inr rfl) : PG X (.Name x pos) (rdG ec X.K own (tgN i)) :=
  PG.imp (pg_name hN hi hx hf) fun v σ H Q h => by
    obtain ⟨w, s, d, rfl, hr, rp, s', e, q⟩ := h
    cases e
    exact q _ ⟨List.length_set, fun j hj => List.getElem?_set_ne fun z => hj (by rw [← z]; exact ho)⟩ (hr.set i ⟨v, rfl, rp⟩)
def tgNil : Tgs := fun ds s => match ds with
  | [] => some s
  | _ => none
def tgCons (t : Tg) (u : Tgs) : Tgs := fun ds s => match ds with
  | [] => none
  | d :: ds => match t d s with
    | some s1 => u ds s1
    | none => none
def tgTup (n : Nat) (t : Tgs) : Tg := fun d s => match d with
  | .tuple ds => if ds.length = n then t ds s else none
  | _ => none
theorem gs_nil {own : List Nat} : PGs X [] (rdGs ec X.K own tgNil) := PGs.imp pgs_nil fun vs σ H Q h => by
  obtain ⟨w, s, ds, rfl, hr, rp, s', e, q⟩ := h
  cases rp with
  | nil =>
    cases e
    exact ⟨rfl, q σ (Off.refl _ _) hr⟩
  | cons _ _ => cases e
theorem gs_cons {own : List Nat} {e : Expr} {es : List Expr} {t : Tg} {u : Tgs} (h1 : PG X e (rdG ec X.K own t)) (h2 : PGs X es (rdGs ec X.K own u)) (hs : (assignEach (e :: es) X.env).map (·.2) = assign e X.env :: (assignEach es X.env).map (·.2) := by rfl) : PGs X (e :: es) (rdGs ec X.K own (tgCons t u)) :=
  PGs.imp (pgs_cons h1 h2 hs) fun vs σ H Q h => by
    obtain ⟨w, s, ds, rfl, hr, rp, s', e, q⟩ := h
    cases rp with
    | nil => cases e
    | cons r1 r2 =>
      rename_i v vs d ds
      unfold tgCons at e
      dsimp only at e
      cases e1 : t d s with
      | none => rw [e1] at e; cases e
      | some s1 =>
        rw [e1] at e
        exact ⟨v, vs, rfl, w, s, d, rfl, hr, r1, s1, e1, fun σ1 o1 r1' => ⟨w, s1, ds, rfl, r1', r2, s', e, fun σ2 o2 r2' => q σ2 (o1.trans o2) r2'⟩⟩
theorem g_tup {own : List Nat} {es : List Expr} {k n : Nat} {t : Tgs} {pos : Pos} (h : PGs X es (rdGs ec X.K own t)) (hcal : X.calm = true := by rfl) (hn : (assignEach es X.env).length = n := by rfl) (hst : (assignEach es X.env).findIdx? (·.1) = none := by rfl) : PG X (.Tuple es k pos) (rdG ec X.K own (tgTup n t)) :=
  PG.imp (pg_tup hcal h hn hst) fun v σ H Q h => by
    obtain ⟨w, s, d, rfl, hr, rp, s', e, q⟩ := h
    unfold tgTup at e
    split at e
    · rename_i ds
      cases rp with
      | tup hs ra =>
        split at e
        · rename_i hl
          exact ⟨_, _, rfl, SqT.of (hr.mem.ext _ _ hs), by rw [ra.length]; exact hl, w, s, ds, rfl, hr, ra, s', e, q⟩
        · cases e
    · cases e
/-- target = e -/
def cAsg (tg : Tg) (c : CE) : CS := fun s => (cv c s).out fun a s1 => match a with
  | .d d => match tg d s1 with
    | some s2 => .nx s2
    | none => .bad
  | _ => .bad
theorem s_asg {own : List Nat} {tg e : Expr} {t : Tg} {c : CE} {pos : Pos} (he : Ex X ec W e c) (hg : PG X tg (rdG ec X.K own t)) (hs : swapsWithSole [tg] e pos.line X.env = pure false := by rfl) (hw : swappedStores [tg] e X.env = pure none := by rfl) (h1 : (assignEach [tg] X.env).map (·.2) = [assign tg X.env] := by rfl) :
    Sx X ec W (.Assign [tg] e pos) (cAsg t c) := (ps_asg he hg hs hw h1).imp fun D σ H h => by
  obtain ⟨w, s, rfl, hr, h⟩ := h
  refine run_ev hr h fun x w1 s1 a le r o hn h1 => ?_
  cases a with
  | ref n => exact h1.elim
  | t _ _ => exact h1.elim
  | new c => exact h1.elim
  | d d =>
    cases e1 : t d s1 with
    | none => simp only [e1] at h1; exact h1.elim
    | some s2 =>
      simp only [e1] at h1
      exact ⟨w1, s1, d, rfl, r, o, s2, e1, fun σ' _ r' => h1 σ' w1 le r'⟩
/-- a, b = x, y -/
def cPar (i j : Nat) (a b : CE) : CS := fun s => (cv a s).out fun x s1 => (cv b s1).out fun y s2 => match slOf x, slOf y with
  | some p, some q => .nx ⟨(s2.v.set i p).set j q, s2.m⟩
  | _, _ => .bad
/-! ### what is walked -/
abbrev CI := S → R (List D)
def ItOk (K : Fg) (w : Wd) (J : It) (ds : List D) : Prop := ∀ w1, Le w w1 → Same w1.G w1.H → ∀ i, (∀ d, ds[i]? = some d → J.go i w1.H ∧ ∀ x H', J.yld i w1.H x H' → ∃ w2, Gr w1 w2 ∧ w2.H = H' ∧ Rp K w2.G x d) ∧ (ds.length ≤ i → J.stop i w1.H)
theorem ItOk.le {K : Fg} {w w1 : Wd} {J : It} {ds : List D} (a : Le w w1) (h : ItOk K w J ds) : ItOk K w1 J ds := fun w2 b => h w2 (a.trans b)
def rdI (K : Fg) (ec : EC) (W : WX) (c : CI) : TI := fun σ H R => ∃ w s, w.H = H ∧ Rel ec K w σ s ∧ Res (fun ds s' => ∀ J w', Le w w' → Rel ec K w' σ s' → ItOk K w' J ds → R J w'.H) (okE K ec W σ w) (c s)
abbrev Ix (X : Cx) (ec : EC) (W : WX) (tg iter : Expr) (c : CI) : Prop := PI X tg iter (rdI X.K ec W c)
theorem PI.imp {X : Cx} {tg iter : Expr} {t t' : TI} (h : PI X tg iter t) (i : ∀ σ H R, t' σ H R → t σ H R) : PI X tg iter t' := ⟨fun pins s σ H R I q => h.run pins s σ H R I (i _ _ _ q)⟩
/-- a list or a tuple of any kind -/
def iSeq (K : Fg) (tl : TE) : TI := fun σ H R => tl σ H fun x H1 => ∃ a, x = .ref a ∧ ((∃ xs, SqL K H1 a xs ∧ R (Itl K a) H1) ∨ ∃ xs, SqT K H1 a xs ∧ R (Itt K a) H1)
theorem pi_seq {tg l : Expr} {tl : TE} (hl : PE X l tl) : PI X tg l (iSeq X.K tl) := by
  refine ⟨fun pins s σ H R I h => ?_⟩
  refine thn (hl.run pins s σ H _ I h) fun v s1 ⟨x, H1, I1, r1, q1⟩ => ?_
  obtain ⟨a, e, hq⟩ := q1
  subst e
  cases r1
  rcases hq with ⟨xs, hq, q⟩ | ⟨xs, hq, q⟩
  · obtain ⟨its, rv, p, hz⟩ := I1.list hq
    refine wpAny_pyIter_list p.isList ?_
    refine ⟨s1.heap.objs.size, [s1.heap.objs.size], _, _, H1, rfl, I1.kept (t' := s1.toks) fun b o e => Heap.get?_push_of_some _ e, turn_list a _, ⟨_, Heap.get?_push_size _ rfl, rfl, rfl⟩, fun b hb => ?_, q⟩
    have e : b = s1.heap.objs.size := by simpa using hb
    subst e
    exact I1.fpOk (Nat.le_refl _) (I1.hok.fresh (Nat.le_refl _))
  · obtain ⟨its, rv, p, hz⟩ := I1.tuple hq
    refine wpAny_pyIter_tuple (show s1.heap.IsTuple a its.toArray from p) ?_
    refine ⟨s1.heap.objs.size, [s1.heap.objs.size], _, _, H1, rfl, I1.kept (t' := s1.toks) fun b o e => Heap.get?_push_of_some _ e, turn_tuple a _, ⟨_, Heap.get?_push_size _ rfl, rfl, rfl⟩, fun b hb => ?_, q⟩
    have e : b = s1.heap.objs.size := by simpa using hb
    subst e
    exact I1.fpOk (Nat.le_refl _) (I1.hok.fresh (Nat.le_refl _))
def ciSeq (c : CE) : CI := fun s => (cv c s).bind fun a s1 => match a with
  | .d (.list ds) => .ok ds s1
  | .d (.tuple ds) => .ok ds s1
  | _ => .bad
theorem i_seq {tg l : Expr} {c : CE} (h : Ex X ec W l c) : Ix X ec W tg l (ciSeq c) := PI.imp (pi_seq h) fun σ H R h => by
  obtain ⟨w, s, rfl, hr, h⟩ := h
  refine run_cv hr h fun x w1 s1 a le1 hr1 ha hn h1 => ?_
  cases a with
  | ref n => exact h1.elim
  | t _ _ => exact h1.elim
  | new c => exact h1.elim
  | d y =>
    have ha : Rp X.K w1.G x y := ha
    cases y with
    | list ds =>
      cases ha with
      | lst hs ra =>
        refine ⟨_, rfl, .inl ⟨_, hr1.mem.ext.seq hs, h1 _ w1 le1 hr1 fun w2 le2 e2 i => ⟨fun d hd => ?_, fun hl => ⟨_, e2.seq (le2.g.seq hs), by rw [ra.length]; exact hl⟩⟩⟩⟩
        obtain ⟨v, ev, rp⟩ := ra.get hd
        refine ⟨⟨_, v, e2.seq (le2.g.seq hs), ev⟩, fun x H' hy => ⟨w2, Gr.refl w2, hy.1.symm, ?_⟩⟩
        have := hy.2 _ (e2.seq (le2.g.seq hs))
        rw [ev] at this
        cases this
        exact rp.mono le2.g
    | tuple ds =>
      cases ha with
      | tup hs ra =>
        refine ⟨_, rfl, .inr ⟨_, SqT.of (hr1.mem.ext _ _ hs), h1 _ w1 le1 hr1 fun w2 le2 e2 i => ⟨fun d hd => ?_, fun hl => ⟨_, SqT.of (e2 _ _ (le2.g _ _ hs)), by rw [ra.length]; exact hl⟩⟩⟩⟩
        obtain ⟨v, ev, rp⟩ := ra.get hd
        refine ⟨⟨_, v, SqT.of (e2 _ _ (le2.g _ _ hs)), ev⟩, fun x H' hy => ⟨w2, Gr.refl w2, hy.1.symm, ?_⟩⟩
        have := hy.2 _ (SqT.of (e2 _ _ (le2.g _ _ hs)))
        rw [ev] at this
        cases this
        exact rp.mono le2.g
    | none => exact h1.elim
    | bool _ => exact h1.elim
    | int _ => exact h1.elim
    | str _ => exact h1.elim
    | dict _ => exact h1.elim
/-- lo, lo + 1, .. -/
def rangeD (lo : Int) : Nat → List D
  | 0 => []
  | n + 1 => .int lo :: rangeD (lo + 1) n
theorem rangeD_len (n : Nat) : ∀ lo : Int, (rangeD lo n).length = n := by
  induction n with
  | zero => intro lo; rfl
  | succ n ih => intro lo; show (rangeD (lo + 1) n).length + 1 = n + 1; rw [ih]
theorem rangeD_get : ∀ (n : Nat) (lo : Int) (i : Nat) (d : D), (rangeD lo n)[i]? = some d → i < n ∧ d = .int (lo + i)
  | 0, lo, i, d, h => by simp [rangeD] at h
  | n + 1, lo, 0, d, h => by
    have h : some (PyData.int lo) = some d := h
    cases h
    exact ⟨Nat.succ_pos _, by simp⟩
  | n + 1, lo, i + 1, d, h => by
    obtain ⟨h1, h2⟩ := rangeD_get n (lo + 1) i d h
    refine ⟨by omega, ?_⟩
    rw [h2]
    congr 1
    omega
theorem it_range {K : Fg} {w : Wd} {lo : Int} {n : Nat} : ItOk K w (Itr lo n) (rangeD lo n) := fun w2 le2 e2 i => ⟨fun d hd => by
  obtain ⟨h1, h2⟩ := rangeD_get n lo i d hd
  refine ⟨h1, fun x H' hy => ⟨w2, Gr.refl w2, hy.1.symm, ?_⟩⟩
  rw [hy.2, h2]
  exact .int _, fun hl => by
  rw [rangeD_len] at hl
  exact hl⟩
def small62 (i : Int) : Bool := decide (-(2 ^ 62) ≤ i ∧ i < 2 ^ 62)
def ciR1 (c : CE) : CI := fun s => (cv c s).bind fun a s1 => match a with
  | .d (.int n) => if small62 n = true then .ok (rangeD 0 n.toNat) s1 else .bad
  | _ => .bad
theorem i_range1 {tg a : Expr} {c : CE} {p pos : Pos} (h : Ex X ec W a c) (hm : X.mg "range" = none) (hg : Gl X "range" := by rfl) (hs : starEach [a] X.env = [(false, eval a X.env)] := by rfl) (h0 : starEach [a] X.env = (false, eval a X.env) :: starEach [] X.env := by rfl) : Ix X ec W tg (.Call (.Name "range" p) [a] [] pos) (ciR1 c) :=
  PI.imp (pi_range1 hg hm (pa_cons h pa_nil h0) hs) fun σ H R h => by
    obtain ⟨w, s, rfl, hr, h⟩ := h
    refine run_cv hr h fun x w1 s1 a le1 hr1 ha hn h1 => ?_
    cases a with
    | ref n => exact h1.elim
    | t _ _ => exact h1.elim
    | new c => exact h1.elim
    | d y =>
      have ha : Rp X.K w1.G x y := ha
      cases y with
      | int n =>
        cases ha
        by_cases hq : small62 n = true
        · simp only [hq, if_true] at h1
          have hq := of_decide_eq_true hq
          exact ⟨n, rfl, hq.1, hq.2, h1 _ w1 le1 hr1 it_range⟩
        · simp only [hq] at h1
          exact h1.elim
      | none => exact h1.elim
      | bool _ => exact h1.elim
      | str _ => exact h1.elim
      | list _ => exact h1.elim
      | tuple _ => exact h1.elim
      | dict _ => exact h1.elim
/-! ### loops -/
def forL (tg : Tg) (body : CS) : List D → S → Out
  | [], s => .nx s
  | d :: ds, s => match tg d s with
    | none => .bad
    | some s1 => match body s1 with
      | .nx s2 => forL tg body ds s2
      | .ct s2 => forL tg body ds s2
      | .bk s2 => .nx s2
      | o => o
def cFor (ci : CI) (tg : Tg) (body : CS) : CS := fun s => (ci s).out fun ds s1 => forL tg body ds s1
theorem s_for {own : List Nat} {iter tgt : Expr} {body : List Stmt} {ci : CI} {tg : Tg} {cb : CS} {pos : Pos} (hp : PassesOwn (model X.prog X.w) X.A X.env X.xe) (hi : Ix X ec W tgt iter ci) (hg : PG X tgt (rdG ec X.K own tg)) (hb : Bx X ec W body cb) (hcal : X.calm = true := by rfl)
    (hs : ∀ x, foldedSetIterable iter X.env x = pure x := by intro _; rfl) : Sx X ec W (.For tgt iter body [] pos) (cFor ci tg cb) := (ps_for hp hcal hi hg hb hs).imp fun D σ H h => by
  obtain ⟨w, s, rfl, hr, h⟩ := h
  refine ⟨w, s, rfl, hr, ?_⟩
  unfold cFor at h
  cases e : ci s with
  | bad => rw [e] at h; exact h
  | ex n s' => rw [e] at h; exact okX_E h
  | ok ds s0 =>
    rw [e] at h
    intro J w0 le0 r0 hJ
    refine ⟨fun i m σ1 H1 => ∃ w1 s1, w1.H = H1 ∧ Le w0 w1 ∧ Rel ec X.K w1 σ1 s1 ∧ i + m = ds.length ∧ OOk X.K ec W D w1 (forL tg cb (ds.drop i) s1), ⟨ds.length, w0, s0, rfl, Le.refl _, r0, Nat.zero_add _, OOk.le le0 h⟩, fun i m σ1 H1 hW => ?_⟩
    obtain ⟨w1, s1, rfl, le1, r1, hm, h1⟩ := hW
    obtain ⟨hgo, hst⟩ := hJ w1 le1 r1.mem.ext i
    by_cases hi' : i < ds.length
    · have hd : ds[i]? = some ds[i] := List.getElem?_eq_getElem hi'
      obtain ⟨g1, g2⟩ := hgo _ hd
      rw [List.drop_eq_getElem_cons hi'] at h1
      unfold forL at h1
      refine .inr ⟨g1, fun σ' H' => ∃ w' s', w'.H = H' ∧ Le w0 w' ∧ Rel ec X.K w' σ' s' ∧ (i + 1) + (m - 1) = ds.length ∧ OOk X.K ec W D w' (forL tg cb (ds.drop (i + 1)) s'), fun σ' H' ⟨w', s', a1, a2, a3, a4, a5⟩ => ⟨m - 1, by omega, w', s', a1, a2, a3, a4, a5⟩, fun x H' hy => ?_⟩
      obtain ⟨w2, gr, rfl, rp⟩ := g2 x H' hy
      have r2 := r1.grow gr
      cases et : tg ds[i] s1 with
      | none => rw [et] at h1; exact h1.elim
      | some s2 =>
        rw [et] at h1
        refine ⟨w2, s1, ds[i], rfl, r2, rp, s2, et, fun σ' _ r3 => ⟨w2, s2, rfl, r3, ?_⟩⟩
        have h2 := OOk.le gr.le h1
        dsimp only at h2
        cases eb : cb s2 with
        | nx s3 =>
          rw [eb] at h2
          exact fun σ4 w4 le4 r4 => ⟨w4, s3, rfl, (le1.trans gr.le).trans le4, r4, by omega, OOk.le le4 h2⟩
        | ct s3 =>
          rw [eb] at h2
          exact fun σ4 w4 le4 r4 => ⟨w4, s3, rfl, (le1.trans gr.le).trans le4, r4, by omega, OOk.le le4 h2⟩
        | bk s3 => rw [eb] at h2; exact h2
        | rt a s3 => rw [eb] at h2; exact h2
        | ex n s3 => rw [eb] at h2; exact h2
        | bad => rw [eb] at h2; exact h2
    · refine .inl ⟨hst (by omega), ?_⟩
      rw [List.drop_eq_nil_of_le (by omega)] at h1
      exact h1 σ1 w1 (Le.refl _) r1
def whL (t : CT) (b : CS) : Nat → S → Out
  | 0, _ => .bad
  | n + 1, s => (t s).out fun x s1 => if x = true then (match b s1 with
      | .nx s2 => whL t b n s2
      | .ct s2 => whL t b n s2
      | .bk s2 => .nx s2
      | o => o) else .nx s1
def cWh (fu : S → Nat) (t : CT) (b : CS) : CS := fun s => whL t b (fu s) s
theorem s_while {c : Expr} {body : List Stmt} {ct : CT} {cb : CS} {pos : Pos} (fu : S → Nat) (hp : PassesOwn (model X.prog X.w) X.A X.env X.xe) (hc : Tx X ec W c ct) (hb : Bx X ec W body cb) : Sx X ec W (.While c body [] pos) (cWh fu ct cb) := (ps_while hp hc hb).imp fun D σ H h => by
  obtain ⟨w, s, rfl, hr, h⟩ := h
  refine ⟨fun m σ1 H1 => ∃ w1 s1, w1.H = H1 ∧ Rel ec X.K w1 σ1 s1 ∧ OOk X.K ec W D w1 (whL ct cb m s1), ⟨fu s, w, s, rfl, hr, h⟩, fun m σ1 H1 hW => ?_⟩
  obtain ⟨w1, s1, rfl, r1, h1⟩ := hW
  cases m with
  | zero => exact h1.elim
  | succ m =>
    refine run_tS r1 (k := fun x s1 => if x = true then (match cb s1 with
      | .nx s2 => whL ct cb m s2
      | .ct s2 => whL ct cb m s2
      | .bk s2 => .nx s2
      | o => o) else .nx s1) h1 fun x w2 s2 le2 r2 h2 => ?_
    cases x with
    | false =>
      rw [if_neg Bool.false_ne_true] at h2 ⊢
      exact h2 σ1 w2 le2 r2
    | true =>
      rw [if_pos rfl] at h2 ⊢
      refine ⟨fun σ' H' => ∃ w' s', w'.H = H' ∧ Rel ec X.K w' σ' s' ∧ OOk X.K ec W D w' (whL ct cb m s'), fun σ' H' q => ⟨m, Nat.lt_succ_self m, q⟩, w2, s2, rfl, r2, ?_⟩
      have h3 := OOk.le le2 h2
      cases eb : cb s2 with
      | nx s3 =>
        rw [eb] at h3
        exact fun σ4 w4 le4 r4 => ⟨w4, s3, rfl, r4, OOk.le le4 h3⟩
      | ct s3 =>
        rw [eb] at h3
        exact fun σ4 w4 le4 r4 => ⟨w4, s3, rfl, r4, OOk.le le4 h3⟩
      | bk s3 => rw [eb] at h3; exact h3
      | rt a s3 => rw [eb] at h3; exact h3
      | ex n s3 => rw [eb] at h3; exact h3
      | bad => rw [eb] at h3; exact h3
end
end Vm
namespace Vm
open PySem L2 PySem.Spec PyProof.Rows
/-! ### defs and their calls -/
inductive RF where
  | ok (a : Rv) (m : List Cell)
  | ex (e : String) (m : List Cell)
  | bad
abbrev Fn := List Sl → List Cell → RF
def ArgsOk (ec : EC) (K : Fg) (w : Wd) : List V → List Sl → Prop := Paired fun v sl => SlOk ec K w (some (some v)) sl
def FOk (K : Fg) (ec : EC) (Q : VK) (E : XK) (w : Wd) : RF → Prop
  | .ok a m' => ∀ x w', Le w w' → Mem ec K w' m' → RvOk K w' x a → FrR w x a → Q x w'.H
  | .ex e m' => ∀ w', Le w w' → Mem ec K w' m' → E (.ref (ec e)) none w'.H
  | .bad => False
def spF (K : Fg) (ec : EC) (n : Nat) (f : Fn) : Sp := fun vs H Q E => vs.length = n ∧ ∃ w m as, w.H = H ∧ Mem ec K w m ∧ ArgsOk ec K w vs as ∧ FOk K ec Q E w (f as m)
/-- arguments of a call of a def: data, cells by themselves -/
abbrev CL := S → R (List Sl)
def lNil : CL := fun s => .ok [] s
def lCons (c : CE) (cl : CL) : CL := fun s => (cv c s).bind fun a s1 => match slOf a with
  | some sl => (cl s1).bind fun r s2 => .ok (sl :: r) s2
  | none => .bad
def rdL (K : Fg) (ec : EC) (W : WX) (c : CL) : TA := fun σ H Q => ∃ w s, w.H = H ∧ Rel ec K w σ s ∧ Res (fun as s' => ∀ vs w', Le w w' → Rel ec K w' σ s' → ArgsOk ec K w' vs as → Q vs w'.H) (okE K ec W σ w) (c s)
/-! ### defs that are called with no repr under way -/
structure Rg (k : Nat) (A : Around) : Prop where
  r : Room k A
  g : A.guards = some []
theorem Rg.mono {j k : Nat} {A : Around} (q : Rg k A) (h : j ≤ k) : Rg j A := ⟨q.r.mono h, q.g⟩
theorem Rg.units {k : Nat} {A : Around} (q : Rg k A) : A.units + 64 < cLine := q.r.units
theorem hu_of {k : Nat} {A : Around} (q : Rg k A) : A.units + 1 < cLine := L2.hu_of q.r
structure FnG (P : Program) (wo : World) (K : Fg) (mg : Str → Option Value) (base : Heap) (k : Nat) (f : Addr) (fd : FuncData) (ps : List Str) (sp : Sp) : Prop where
  len : ∀ vs H Q E, sp vs H Q E → vs.length = ps.length
  go : ∀ {A : Around} {out : List Env} {s : Shared} {H : Hp} {as : Args} {us : List Value} {vs : List V} {Q : VK} {E : XK}, Rg k A → Env0 P wo K mg base A out s H → BindsTo s fd as (ps.zip us) → Vals vs us → sp vs H Q E →
    codeAny (model P wo) A (.call (.ref f) as) (CR (L2.CX P wo) out P wo H s Q E) s
theorem FnG.imp {P : Program} {wo : World} {K : Fg} {mg : Str → Option Value} {base : Heap} {k : Nat} {f : Addr} {fd : FuncData} {ps : List Str} {sp sp' : Sp} (F : FnG P wo K mg base k f fd ps sp) (h : ∀ vs H Q E, sp' vs H Q E → sp vs H Q E) : FnG P wo K mg base k f fd ps sp' :=
  ⟨fun vs H Q E q => F.len vs H Q E (h _ _ _ _ q), fun a b c d q => F.go a b c d (h _ _ _ _ q)⟩
theorem run_fnG {X : Cx} {k : Nat} {f : Addr} {fd : FuncData} {ps : List Str} {sp : Sp} {E : L2.St → XK} {pins : List (Addr × Obj)} {σ : L2.St} {H : Hp} {s : Shared} {Q : VK} {us : List Value} {vs : List V} (F : FnG X.prog X.w X.K X.mg X.base k f fd ps sp) (hr : Rg k X.A) (bi : Binds X.K fd ps [])
    (px : PassesAt (L2.CX X.prog X.w) X σ (E σ)) (J : Inv X pins σ H s) (rv : Vals vs us) (q : sp vs H Q (E σ)) : wpAny (model X.prog X.w) X.A (call (.ref f) us) (EP X pins σ Q) X.xe s := by
  have ln : (us ++ []).length = ps.length := by rw [List.append_nil, ← rv.length]; exact F.len _ _ _ _ q
  have b2 := bi s us J.kIn (by simpa using ln)
  rw [List.append_nil] at b2
  refine wpAny_call (codeAny_mono (F.go hr J.env0 b2 rv q) fun r s2 hz => ?_)
  rcases r with e | (_ | u | _ | _)
  · exact px pins H s e s2 J hz
  · exact False.elim hz
  · first | exact J.after hz | exact False.elim hz
  · first | exact J.after hz | exact False.elim hz
  · first | exact J.after hz | exact False.elim hz
theorem pe_callG {X : Cx} {k : Nat} {f : Addr} {fd : FuncData} {ps : List Str} {sp : Sp} {E : L2.St → XK} {x : Str} {p pos : Pos} {e : Expr} {es : List Expr} {t : TA} (F : FnG X.prog X.w X.K X.mg X.base k f fd ps sp) (hr : Rg k X.A) (gl : Gl X x) (gm : X.mg x = some (.ref f)) (kp : PySem.W.keepIn X.K (.ref f) = true) (bi : Binds X.K fd ps []) (px : ∀ σ, PassesAt (L2.CX X.prog X.w) X σ (E σ))
    (ha : PA X (e :: es) t) (db : (x == ("__debug__" : Str)) = false) (st : starEach (e :: es) X.env = (false, eval e X.env) :: starEach es X.env) (pl : (backTo pos (starEach es X.env)).any (·.1) = false) : PE X (.Call (.Name x p) (e :: es) [] pos) (tCallS sp E t) := by
  constructor
  intro pins s σ H Q J h
  refine wpAny_Call_Name_kw (ld_glob J gl gm ?_ db)
  exact PySem.W.callWith_K (h₀ := X.base) J.ok.mod.kin kp (thn (ha.run pos pins s σ H _ J h) fun us s2 ⟨vs, H2, J2, rv, q⟩ => ⟨J2.kIn, run_fnG F hr bi (px σ) J2 rv q⟩) st pl
section
variable {X : Cx} {ec : EC} {W : WX}
theorem l_nil : PA X [] (rdL X.K ec W lNil) := PA.imp pa_nil fun σ H Q h => by
  obtain ⟨w, s, rfl, hr, h⟩ := h
  exact h [] w (Le.refl w) hr .nil
theorem l_cons {e : Expr} {es : List Expr} {c : CE} {cl : CL} (h1 : Ex X ec W e c) (h2 : PA X es (rdL X.K ec W cl)) (hs : starEach (e :: es) X.env = (false, eval e X.env) :: starEach es X.env := by rfl) : PA X (e :: es) (rdL X.K ec W (lCons c cl)) :=
  PA.imp (pa_cons h1 h2 hs) fun σ H Q h => by
    obtain ⟨w, s, rfl, hr, h⟩ := h
    show rd X.K ec W c σ w.H _
    refine run_cv hr h fun x w1 s1 a le1 hr1 ha hn h1 => ?_
    cases e1 : slOf a with
    | none => simp only [e1] at h1; exact h1.elim
    | some sl =>
      simp only [e1] at h1
      refine ⟨w1, s1, rfl, hr1, ?_⟩
      refine Res.mono h1.bind (fun as s2 h2 vs w2 le2 hr2 rp => ?_) fun _ _ q => okE_le le1 q
      exact h2 (x :: vs) w2 (le1.trans le2) hr2 (.cons (slOk_mono le2 (slOf_ok ha e1)) rp)
def RF.toR (v : List Sl) : RF → R Rv
  | .ok a m => .ok a ⟨v, m⟩
  | .ex e m => .ex e ⟨v, m⟩
  | .bad => .bad
def cCall (f : Fn) (cl : CL) : CE := fun s => (cl s).bind fun as s1 => (f as s1.m).toR s1.v
theorem rel_mem {K : Fg} {w w' : Wd} {σ : L2.St} {v : List Sl} {m m' : List Cell} (le : Le w w') (r : Rel ec K w σ ⟨v, m⟩) (h : Mem ec K w' m') : Rel ec K w' σ ⟨v, m'⟩ := ⟨h, r.len, fun i sl e => slOk_mono le (r.slot i sl e)⟩
theorem e_call {k : Nat} {fa : Addr} {fd : FuncData} {ps : List Str} {f : Fn} {x : Str} {p pos : Pos} {e : Expr} {es : List Expr} {cl : CL} {n : Nat} (F : FnG X.prog X.w X.K X.mg X.base k fa fd ps (spF X.K ec n f)) (hr : Rg k X.A) (hm : X.mg x = some (.ref fa)) (hk : PySem.W.keepIn X.K (.ref fa) = true) (hb : Binds X.K fd ps [])
    (tk : Takes X W) (ha : PA X (e :: es) (rdL X.K ec W cl)) (hl : ∀ s as s', cl s = .ok as s' → as.length = n) (hg : Gl X x := by rfl) (hdb : (x == ("__debug__" : Str)) = false := by decide) (he : starEach (e :: es) X.env = (false, eval e X.env) :: starEach es X.env := by rfl)
    (hpl : (backTo pos (starEach es X.env)).any (·.1) = false := by rfl) : Ex X ec W (.Call (.Name x p) (e :: es) [] pos) (cCall f cl) :=
  (pe_callG F hr hg hm hk hb (fun σ => passAt tk σ) ha hdb he hpl).imp fun σ H Q h => by
    obtain ⟨w, s, rfl, hr, h⟩ := h
    refine ⟨w, s, rfl, hr, ?_⟩
    unfold cCall at h
    cases e1 : cl s with
    | bad => rw [e1] at h; exact h
    | ex n s' => rw [e1] at h; exact h
    | ok as s1 =>
      rw [e1] at h
      intro vs w1 le1 r1 ao
      refine ⟨by rw [paired_len ao]; exact hl _ _ _ e1, w1, s1.m, as, rfl, r1.mem, ao, ?_⟩
      have h1 : Res (okV ec X.K w σ Q) (okE X.K ec W σ w) ((f as s1.m).toR s1.v) := h
      cases e2 : f as s1.m with
      | bad => rw [e2] at h1; exact h1
      | ex n m' =>
        rw [e2] at h1
        exact fun w2 le2 m2 => h1 w2 (le1.trans le2) (rel_mem le2 r1 m2)
      | ok a m' =>
        rw [e2] at h1
        exact fun x w2 le2 m2 o fr => h1 x w2 (le1.trans le2) (rel_mem le2 r1 m2) o (fr.back le1 le2 o)
/-- a written list of arguments has its length -/
def LLen (n : Nat) (cl : CL) : Prop := ∀ s as s', cl s = .ok as s' → as.length = n
theorem ll_nil : LLen 0 lNil := fun s as s' e => by
  cases e
  rfl
theorem ll_cons {n : Nat} {c : CE} {cl : CL} (h : LLen n cl) : LLen (n + 1) (lCons c cl) := fun s as s' e => by
  unfold lCons at e
  cases e1 : cv c s with
  | bad => rw [e1] at e; cases e
  | ex _ _ => rw [e1] at e; cases e
  | ok a s1 =>
    rw [e1] at e
    simp only [R.bind] at e
    cases e3 : slOf a with
    | none => rw [e3] at e; cases e
    | some sl =>
      rw [e3] at e
      dsimp only at e
      cases e2 : cl s1 with
      | bad => rw [e2] at e; cases e
      | ex _ _ => rw [e2] at e; cases e
      | ok xs s2 =>
        rw [e2] at e
        cases e
        show xs.length + 1 = n + 1
        rw [h _ _ _ e2]
end
/-- a def's run: its slots, its cells gone behind it; a list or dict of its own is handed back as new -/
def fin (m : List Cell) : Out → RF
  | .nx s => .ok (.d .none) (s.m.take m.length)
  | .rt (.ref k) s => if m.length ≤ k then (match s.m[k]? with
    | some .gone => .bad
    | some c => .ok (.new c) (s.m.take m.length)
    | none => .bad) else .bad
  | .rt (.t _ _) _ => .bad
  | .rt a s => .ok a (s.m.take m.length)
  | .ex e s => .ex e (s.m.take m.length)
  | _ => .bad
def runF (n : Nat) (c : CS) : Fn := fun as m => fin m (c ⟨as ++ List.replicate (n - as.length) .u, m⟩)
theorem nv_cut {w w' : Wd} {m m' : List Cell} {G : Hp} (hl : w.r.length = m.length) (le : Le w w') (h : NV ec w' m') : NV ec ⟨G, w.r, w.F, w'.H⟩ (m'.take m.length) := by
  refine ⟨⟨fun t q n j ds e1 e2 => ?_, fun t q x e1 e2 => ?_⟩, fun p hp => h.2 p (by rw [le.s]; exact hp)⟩
  · have ht : t < m.length := by
      rw [← hl]
      exact (List.getElem?_eq_some_iff.mp e1).1
    rw [List.getElem?_take_of_lt ht] at e2
    obtain ⟨h1, h2⟩ := h.1.1 t q n j ds (le.cell e1) e2
    refine ⟨h1, fun p ks e3 e4 => ?_⟩
    rw [List.getElem?_take_of_lt (by omega)] at e4
    exact h2 p ks (le.cell e3) e4
  · have ht : t < w.r.length := (List.getElem?_eq_some_iff.mp e1).1
    rw [List.getElem?_take_of_lt (by omega)] at e2
    refine (h.1.2 t q x (le.cell e1) e2).mono (fun k p hk z => ?_) fun _ _ z => z
    have z2 := le.cell (List.getElem?_eq_getElem (show k < w.r.length by omega))
    rw [z] at z2
    show w.r[k]? = some p
    rw [List.getElem?_eq_getElem (show k < w.r.length by omega), ← z2]
theorem cut_mem {K : Fg} {w w' : Wd} {m m' : List Cell} (le : Le w w') (hm : Mem ec K w m) (h : Mem ec K w' m') : Mem ec K ⟨w'.G, w.r, w.F, w'.H⟩ (m'.take m.length) ∧ Le w ⟨w'.G, w.r, w.F, w'.H⟩ := by
  have hp : ∀ (n : Nat) (p : Addr), w.r[n]? = some p → w'.r[n]? = some p := fun n p e => le.cell e
  have hl : m.length ≤ m'.length := by
    rw [← hm.len, ← h.len]
    exact le.p.length_le
  have l3 : Le w ⟨w'.G, w.r, w.F, w'.H⟩ := ⟨le.g, le.k, List.prefix_refl _, fun _ q => .inl q, rfl, le.z⟩
  refine ⟨⟨h.ext, ?_, hm.nd, fun n p c h1 h2 => ?_, fun p q => ?_, hm.tab.back h.tab, hm.inv.trans (l3.ch _), h.gt, nv_cut hm.len le h.nv⟩, l3⟩
  · show w.r.length = (m'.take m.length).length
    rw [List.length_take, hm.len]
    omega
  · have h2 : (m'.take m.length)[n]? = some c := h2
    have hn : n < m.length := by
      rw [← hm.len]
      exact (List.getElem?_eq_some_iff.mp h1).1
    rw [List.getElem?_take_of_lt hn] at h2
    exact h.cell n p c (hp n p h1) h2
  · have q' : w'.F p := by rw [le.s]; exact q
    obtain ⟨a, b, c⟩ := h.fo p q'
    exact ⟨a, (hm.fo p q).2.1, c⟩
theorem start_slot {n : Nat} {vs : List V} {as : List Sl} {K : Fg} {w : Wd} {N : List Str} (hN : N.length = n) (ao : ArgsOk ec K w vs as) (i : Nat) (sl : Sl) (e : (as ++ List.replicate (n - as.length) Sl.u)[i]? = some sl) : SlOk ec K w (L2.start N vs)[i]? sl := by
  have hlen := paired_len ao
  by_cases hi : i < as.length
  · rw [List.getElem?_append_left hi] at e
    unfold L2.start
    rw [List.getElem?_append_left (by rw [List.length_map]; omega), List.getElem?_map]
    have key : ∀ {vs : List V} {as : List Sl} {i : Nat} {sl : Sl}, ArgsOk ec K w vs as → as[i]? = some sl → SlOk ec K w (Option.map some vs[i]?) sl := by
      intro vs as i sl h
      induction h generalizing i with
      | nil => intro e; simp at e
      | cons r t ih =>
        intro e
        cases i with
        | zero =>
          simp at e
          subst e
          exact r
        | succ i =>
          simp only [List.getElem?_cons_succ] at e ⊢
          exact ih e
    exact key ao e
  · rw [List.getElem?_append_right (by omega), List.getElem?_replicate] at e
    split at e
    · cases e
      trivial
    · cases e
theorem rel_start {K : Fg} {w : Wd} {m : List Cell} {vs : List V} {as : List Sl} {N : List Str} (hm : Mem ec K w m) (ao : ArgsOk ec K w vs as) : Rel ec K w (L2.start N vs) ⟨as ++ List.replicate (N.length - as.length) .u, m⟩ := by
  refine ⟨hm, ?_, fun i sl e => start_slot rfl ao i sl e⟩
  show (L2.start N vs).length = (as ++ List.replicate (N.length - as.length) Sl.u).length
  unfold L2.start
  rw [List.length_append, List.length_append, List.length_map, List.length_replicate, List.length_replicate, paired_len ao]
theorem fin_ok {K : Fg} {ec : EC} {Q : VK} {E : XK} {w : Wd} {m : List Cell} {o : Out} (hm : Mem ec K w m) (h : FOk K ec Q E w (fin m o)) : OOk K ec (fun cls d _ H => E cls d H) { nx := fun _ H' => Q .non H', rt := Q } w o := by
  cases o with
  | bad => exact h
  | bk s => exact h.elim
  | ct s => exact h.elim
  | nx s =>
    intro σ' w' le r
    obtain ⟨m2, le2⟩ := cut_mem le hm r.mem
    exact h .non ⟨w'.G, w.r, w.F, w'.H⟩ le2 m2 .non .d
  | ex e s =>
    intro σ' w' le r
    obtain ⟨m2, le2⟩ := cut_mem le hm r.mem
    exact h ⟨w'.G, w.r, w.F, w'.H⟩ le2 m2
  | rt a s =>
    intro x σ' w' le r o f
    obtain ⟨m2, le2⟩ := cut_mem le hm r.mem
    cases a with
    | d y => exact h x ⟨w'.G, w.r, w.F, w'.H⟩ le2 m2 o .d
    | t b es => exact h.elim
    | new c =>
      obtain ⟨p, ex, ⟨h1, h2⟩, hc⟩ := o
      refine h x ⟨w'.G, w.r, w.F, w'.H⟩ le2 m2 ⟨p, ex, ⟨fun z => h1 (le.mem z), fun z => h2 (by rw [le.s]; exact z)⟩, hc⟩ fun c' e' p' ep => f c' e' p' ep
    | ref k =>
      obtain ⟨p, rfl, hk⟩ := o
      unfold fin at h
      by_cases hl : m.length ≤ k
      · have h : FOk K ec Q E w (match s.m[k]? with
          | some .gone => .bad
          | some c => .ok (.new c) (s.m.take m.length)
          | none => .bad) := by
          simpa only [hl, if_true] using h
        cases ec' : s.m[k]? with
        | none => rw [ec'] at h; exact h.elim
        | some c =>
          rw [ec'] at h
          have hc := r.mem.cell k p c hk ec'
          have np : p ∉ w.r := fun z => by
            obtain ⟨j, hj⟩ := List.getElem?_of_mem z
            have hj2 := le.cell hj
            have : j = k := nd_ix r.mem.nd hj2 hk
            have hj3 := (List.getElem?_eq_some_iff.mp hj).1
            rw [hm.len] at hj3
            omega
          have fp : w.H p = none := by
            rcases le.f p (List.mem_of_getElem? hk) with z | z
            · exact absurd z np
            · exact z
          have nf : ¬ w.F p := fun z => by
            have z' : w'.F p := by rw [le.s]; exact z
            exact (r.mem.fo p z').2.1 (List.mem_of_getElem? hk)
          cases c with
          | gone => exact h.elim
          | l ds => exact h (.ref p) ⟨w'.G, w.r, w.F, w'.H⟩ le2 m2 ⟨p, rfl, ⟨np, nf⟩, hc⟩ fun _ _ q eq => by cases eq; exact fp
          | k ds => exact h (.ref p) ⟨w'.G, w.r, w.F, w'.H⟩ le2 m2 ⟨p, rfl, ⟨np, nf⟩, hc⟩ fun _ _ q eq => by cases eq; exact fp
          | t ds => exact h (.ref p) ⟨w'.G, w.r, w.F, w'.H⟩ le2 m2 ⟨p, rfl, ⟨np, nf⟩, hc⟩ fun _ _ q eq => by cases eq; exact fp
          | r ds => exact h (.ref p) ⟨w'.G, w.r, w.F, w'.H⟩ le2 m2 ⟨p, rfl, ⟨np, nf⟩, hc⟩ fun _ _ q eq => by cases eq; exact fp
          | i n j ds => exact h (.ref p) ⟨w'.G, w.r, w.F, w'.H⟩ le2 m2 ⟨p, rfl, ⟨np, nf⟩, hc⟩ fun _ _ q eq => by cases eq; exact fp
          | g x => exact h (.ref p) ⟨w'.G, w.r, w.F, w'.H⟩ le2 m2 ⟨p, rfl, ⟨np, nf⟩, hc⟩ fun _ _ q eq => by cases eq; exact fp
      · simp only [hl, if_false] at h
        exact h.elim
/-- THE RULE of a def -/
theorem fn_ok {P : Program} {wo : World} {K : Fg} {mg : Str → Option Value} {base : Heap} {ec : EC} {x qual : Str} {st : Stmt} {f : Addr} {fd : FuncData} {N ps : List Str} {k : Nat} (F : Fun K x qual st f fd) (S : FnScope N ps (defScope st)) (c : CS)
    (hb : ∀ (cdv : Value) (A : Around) (outer : List Env) (s : Shared) (H : Hp) (E : XK), Rg k (A.deeper (envOfC qual (defScope st) s.heap.objs.size f cdv)) → Takes (cxOf (L2.CX P wo) P wo K mg base N qual (defScope st) f cdv A outer s H E) (fun cls d _ H => E cls d H) →
      PassesOwn (model P wo) (A.deeper (envOfC qual (defScope st) s.heap.objs.size f cdv)) (envOfC qual (defScope st) s.heap.objs.size f cdv) (cxOf (L2.CX P wo) P wo K mg base N qual (defScope st) f cdv A outer s H E).xe →
      PSs (cxOf (L2.CX P wo) P wo K mg base N qual (defScope st) f cdv A outer s H E) (defBody st) (rdS K ec (fun cls d _ H => E cls d H) c)) :
    FnG P wo K mg base (k + 1) f fd ps (spF K ec ps.length (runF N.length c)) := by
  obtain ⟨oc, od, kV, doc, pm, an, cdv, ct, osl, rfl, lk, hcd⟩ := F.ex
  refine ⟨fun vs H Q E h => h.1, fun {A out s H as us vs Q E} rg e0 bd rv h => ?_⟩
  have inH : K.In s.heap := e0.mod.kin.keeps fun b o e => (e0.bs b o e).1
  have noL : s.heap.NoLimit := e0.mod.nolimit.keeps fun b o e => (e0.bs b o e).1
  refine codeAny_call_function rg.r.depth (inH _ _ lk) rfl S.co S.gen rfl (PySem.W.codeRec_of inH hcd) (bd _ _ _ _ ?_)
  refine wpAny_newFunctionEnv_cells S.kind (fun ⟨n, v⟩ hy => ?_) fun env he s1 z => ?_
  · rcases S.par n (List.of_mem_zip hy).1 with q | q
    · exact .inl q
    · exact .inr ⟨q, PySem.W.cellsFrom_some _ _ _ (.inl q)⟩
  subst he
  refine ⟨noL.keeps z.toInCall.keep, codeAny_func ?_⟩
  have body := hb cdv A out s H E ⟨rg.r.deeper _, rg.g⟩ (takes_of rfl rfl rfl rfl) (passes_of rfl)
  have J : Inv (cxOf (L2.CX P wo) P wo K mg base N qual (defScope st) f cdv A out s H E) [] (start N vs) H s1 := inv_start S rg.r.hd e0 h.1 rv z
  obtain ⟨hl, w, m, aa, rfl, hm, ao, h⟩ := h
  refine wpAny_mono (body.run [] s1 (start N vs) w.H _ J ⟨w, _, rfl, rel_start hm ao, fin_ok hm h⟩) (fun fl s2 hs => ?_) fun e s2 hs => hs
  have out : ∀ {σ' : L2.St} {H' : Hp} {v : V} {u : Value}, Inv (cxOf (L2.CX P wo) P wo K mg base N qual (defScope st) f cdv A out s w.H E) [] σ' H' s2 → RelV v u → Q v H' → L2.CE out P wo w.H s Q u s2 :=
    fun {σ' H' v u} J2 rv2 q2 => ⟨v, H', J2.os, J2.bare, J2.base, J2.hok, rv2, q2⟩
  cases fl with
  | next =>
    obtain ⟨σ', H', J2, q2⟩ := hs
    exact out (v := V.non) (u := Value.none) J2 rfl q2
  | ret u =>
    obtain ⟨v, σ', H', J2, rv2, q2⟩ := hs
    exact out J2 rv2 q2
  | brk =>
    obtain ⟨_, _, _, q2⟩ := hs
    exact q2.elim
  | cont =>
    obtain ⟨_, _, _, q2⟩ := hs
    exact q2.elim
/-! ### raise -/
structure ExcF (K : Fg) (mg : Str → Option Value) (ec : EC) (x : Str) (n : String) : Prop where
  g : mg x = some (.ref (ec n))
  x : PySem.W.excIn K (ec n) [.type "ValueError", .type "Exception", .type "BaseException", .type "object"] "ValueError.__new__" = true
  k : PySem.W.keepIn K (.ref (ec n)) = true
  b : PySem.W.subIn K (.ref (ec n)) (.type "BaseException") = some true
  t : PySem.W.typeIn K (.ref (ec n)) = some (.type "type")
section
variable {X : Cx} {ec : EC} {W : WX}
def cRaise (n : String) : CS := fun s => .ex n s
theorem s_raise {x m : Str} {n : String} {j : Nat} {p p2 pos pos2 : Pos} (F : ExcF X.K X.mg ec x n) (tk : Takes X W) (hcal : X.calm = true := by rfl) (hg : Gl X x := by rfl) (hdb : (x == ("__debug__" : Str)) = false := by decide) : Sx X ec W (.Raise (some (.Call (.Name x p) [.Constant (.str m) j p2] [] pos)) none pos2) (cRaise n) :=
  (ps_raise hcal tk (pmk_own PySem.F.excBase_ValueError F.x F.g F.k (raises_own F.b F.t) hg hdb)).imp fun D σ H h => by
    obtain ⟨w, s, rfl, hr, h⟩ := h
    exact h σ w (Le.refl w) hr
/-! ### writing into a cell -/
def Cell.plain : Cell → Bool
  | .r _ => false
  | .i _ _ _ => false
  | .g (.o _ _) => false
  | .g (.w _) => false
  | _ => true
theorem lkL_set {w : Wd} {m : List Cell} {n : Nat} {p : Addr} {o : HO} {c : Cell} (nd : w.r.Nodup) (hn : w.r[n]? = some p) (hc : c.noO = true) (h : LkL ec w m) : LkL ec ⟨w.G, w.r, w.F, upd w.H p o⟩ (m.set n c) := fun t q x e1 e2 => by
  by_cases ne : n = t
  · subst ne
    rw [List.getElem?_set] at e2
    split at e2
    · split at e2
      · have e3 : c = .g x := Option.some.inj e2
        rw [e3] at hc
        exact lkO_noO hc
      · cases e2
    · exact absurd rfl ‹_›
  · rw [List.getElem?_set_ne ne] at e2
    have hq : q ≠ p := fun z => ne (nd_ix nd hn (z ▸ e1))
    refine (h t q x e1 e2).mono (fun _ _ _ z => z) fun _ _ z => ?_
    show upd w.H p o q = _
    rw [upd_ne hq]
    exact z
theorem nv_set {w : Wd} {m : List Cell} {n : Nat} {p : Addr} {o : HO} {c : Cell} (nd : w.r.Nodup) (hl : w.r.length = m.length) (hn : w.r[n]? = some p) (hF : ∀ q, w.F q → q ≠ p) (hc : c.plain = true) (h : NV ec w m) : NV ec ⟨w.G, w.r, w.F, upd w.H p o⟩ (m.set n c) := by
  have hnm : n < m.length := by
    rw [← hl]
    exact (List.getElem?_eq_some_iff.mp hn).1
  refine ⟨⟨fun t q n0 j ds e1 e2 => ?_, lkL_set nd hn (by cases c <;> first | rfl | (rename_i x; cases x <;> first | rfl | cases hc)) h.1.2⟩, fun q hq => ?_⟩
  · have ne : n ≠ t := fun z => by
      subst z
      rw [List.getElem?_set_self hnm] at e2
      cases e2
      cases hc
    rw [List.getElem?_set_ne ne] at e2
    obtain ⟨h1, h2⟩ := h.1.1 t q n0 j ds e1 e2
    refine ⟨h1, fun p' ks e3 e4 => ?_⟩
    have ne2 : n ≠ n0 := fun z => by
      subst z
      rw [List.getElem?_set_self hnm] at e4
      cases e4
      cases hc
    rw [List.getElem?_set_ne ne2] at e4
    obtain ⟨ws, k, e5, e6⟩ := h2 p' ks e3 e4
    refine ⟨ws, k, ?_, e6⟩
    have hp : p' ≠ p := fun z => ne2 (nd_ix nd hn (z ▸ e3))
    show upd w.H p o p' = _
    rw [upd_ne hp]
    exact e5
  · rcases h.2 q hq with z | ⟨u, e, z⟩
    · exact .inl z
    · refine .inr ⟨u, ?_, z⟩
      show upd w.H p o q = _
      rw [upd_ne (hF q hq)]
      exact e
theorem nofrz_l {H : Hp} {p : Addr} {vs : List V} (h : H p = some (.lst vs)) : ∀ od u, H p ≠ some (.frz od u) := fun _ _ z => by
  rw [h] at z
  cases z
theorem nofrz_put {H H' : Hp} {p : Addr} {y v : V} (h : DPut H p y v H') : ∀ od u, H p ≠ some (.frz od u) := fun _ _ z => by
  rcases h with ⟨_, _, h, _⟩ | ⟨_, _, _, h, _⟩
  · rw [h] at z
    cases z
  · rw [h] at z
    cases z
theorem cell_set {K : Fg} {w : Wd} {σ : L2.St} {s : S} {n : Nat} {p : Addr} {o : HO} {c : Cell} (r : Rel ec K w σ s) (hn : w.r[n]? = some p) (hg : w.G p = none) (hc : COk K w.G (upd w.H p o) p c) (hz : ∀ od u, w.H p ≠ some (.frz od u)) (hpl : c.plain = true := by rfl) :
    Rel ec K ⟨w.G, w.r, w.F, upd w.H p o⟩ σ ⟨s.v, s.m.set n c⟩ ∧ Le w ⟨w.G, w.r, w.F, upd w.H p o⟩ := by
  have le : Le w ⟨w.G, w.r, w.F, upd w.H p o⟩ := ⟨Same.refl _, fun a u e na => ⟨u, by
    show upd w.H p o a = some u
    have hne : a ≠ p := by
      intro z
      subst z
      exact na (List.mem_of_getElem? hn)
    rw [upd_ne hne]
    exact e, fun _ => rfl⟩, List.prefix_refl _, fun _ h => .inl h, rfl, fun a od u e => by
    have ne : a ≠ p := fun z => hz od u (by rw [← z]; exact e)
    show upd w.H p o a = _
    rw [upd_ne ne]
    exact e⟩
  refine ⟨⟨⟨fun b u e => ?_, by show w.r.length = (s.m.set n c).length; rw [List.length_set]; exact r.mem.len, r.mem.nd, fun k q c' h1 h2 => ?_, fun q hq => ?_, (let ⟨_, a, b, c⟩ := r.liveN hn hg; r.mem.tab.put a b c.1), r.mem.inv.trans (le.ch _), r.mem.gt, nv_set r.mem.nd r.mem.len hn (fun q hq z => (r.mem.fo q hq).2.1 (z ▸ List.mem_of_getElem? hn)) hpl r.mem.nv⟩, r.len, fun i sl e => slOk_mono le (r.slot i sl e)⟩, le⟩
  · show upd w.H p o b = some u
    have hb : b ≠ p := by
      intro z
      subst z
      have e : w.G b = some u := e
      rw [hg] at e
      cases e
    rw [upd_ne hb]
    exact r.mem.ext b u e
  · have h2 : (s.m.set n c)[k]? = some c' := h2
    by_cases hk : n = k
    · subst hk
      have hl : n < s.m.length := by rw [← r.mem.len]; exact (List.getElem?_eq_some_iff.mp hn).1
      rw [List.getElem?_set_self hl] at h2
      cases h2
      have h1 : w.r[n]? = some q := h1
      rw [hn] at h1
      cases h1
      exact hc
    · rw [List.getElem?_set_ne hk] at h2
      have hq : q ≠ p := fun z => hk (nd_ix r.mem.nd hn (z ▸ h1))
      have c0 := r.mem.cell k q c' h1 h2
      refine cOk_mono (Same.refl _) (fun hc => ?_) (fun u _ e => ?_) c0
      · show w.G q = none
        cases c' with
        | l ds => exact c0.1
        | k kvs => exact c0.1
        | t kvs => exact c0.1
        | r ks => exact c0.1
        | i n j ds => exact c0.1
        | g x => exact c0.1
        | gone => exact absurd rfl hc
      · show upd w.H p o q = some u
        rw [upd_ne hq]
        exact e
  · obtain ⟨a, b, u, hu⟩ := r.mem.fo q hq
    refine ⟨a, b, u, ?_⟩
    show upd w.H p o q = some u
    have hne : q ≠ p := by
      intro z
      subst z
      exact b (List.mem_of_getElem? hn)
    rw [upd_ne hne]
    exact hu
/-! ### dicts -/
def getD {κ : Type} [DecidableEq κ] (kvs : List (κ × D)) (k : κ) : Option D := (kvs.find? fun kv => decide (kv.1 = k)).map (·.2)
def putD {κ : Type} [DecidableEq κ] (kvs : List (κ × D)) (k : κ) (v : D) : List (κ × D) :=
  if (kvs.any fun kv => decide (kv.1 = k)) = true then kvs.map (fun kv => if kv.1 = k then (kv.1, v) else kv) else kvs ++ [(k, v)]
theorem kv_get {K : Fg} {G : Hp} {κ : Type} [DecidableEq κ] {k : κ} : ∀ {ws : List (κ × V)} {kvs : List (κ × D)} {d : D}, KvAll K G ws kvs → getD kvs k = some d → ∃ v, valV ws k = some v ∧ Rp K G v d
  | _, _, d, .nil, e => by cases e
  | (k1, v) :: ws, (k2, d2) :: kvs, d, .cons r t, e => by
    obtain ⟨e1, rp⟩ := r
    have e1 : k1 = k2 := e1
    subst e1
    by_cases h : k1 = k
    · subst h
      unfold getD at e
      rw [List.find?_cons] at e
      simp at e
      subst e
      exact ⟨v, valV_pos rfl, rp⟩
    · have e' : getD kvs k = some d := by
        unfold getD at e ⊢
        rw [List.find?_cons] at e
        simp [h] at e ⊢
        exact e
      obtain ⟨v', h1, h2⟩ := kv_get t e'
      exact ⟨v', by rw [valV_neg h]; exact h1, h2⟩
theorem kv_none {K : Fg} {G : Hp} {κ : Type} [DecidableEq κ] {k : κ} : ∀ {ws : List (κ × V)} {kvs : List (κ × D)}, KvAll K G ws kvs → getD kvs k = none → valV ws k = none
  | _, _, .nil, e => rfl
  | (k1, v) :: ws, (k2, d2) :: kvs, .cons r t, e => by
    obtain ⟨e1, rp⟩ := r
    have e1 : k1 = k2 := e1
    subst e1
    by_cases h : k1 = k
    · subst h
      unfold getD at e
      rw [List.find?_cons] at e
      simp at e
    · have e' : getD kvs k = none := by
        unfold getD at e ⊢
        rw [List.find?_cons] at e
        simp [h] at e ⊢
        exact e
      rw [valV_neg h]
      exact kv_none t e'
theorem kv_any {K : Fg} {G : Hp} {κ : Type} [DecidableEq κ] {k : κ} : ∀ {ws : List (κ × V)} {kvs : List (κ × D)}, KvAll K G ws kvs → (ws.any fun kv => decide (kv.1 = k)) = (kvs.any fun kv => decide (kv.1 = k))
  | _, _, .nil => rfl
  | (k1, v) :: ws, (k2, d2) :: kvs, .cons r t => by
    obtain ⟨e1, rp⟩ := r
    have e1 : k1 = k2 := e1
    subst e1
    rw [List.any_cons, List.any_cons, kv_any t]
theorem kv_put {K : Fg} {G : Hp} {κ : Type} [DecidableEq κ] {k : κ} {v : V} {d : D} (rv : Rp K G v d) {ws : List (κ × V)} {kvs : List (κ × D)} (h : KvAll K G ws kvs) : KvAll K G (putK ws k v) (putD kvs k d) := by
  unfold putK putD
  rw [kv_any h]
  split
  · have go : ∀ {ws : List (κ × V)} {kvs : List (κ × D)}, KvAll K G ws kvs → KvAll K G (ws.map fun kv => if kv.1 = k then (kv.1, v) else kv) (kvs.map fun kv => if kv.1 = k then (kv.1, d) else kv) := by
      intro ws kvs h
      induction h with
      | nil => exact .nil
      | cons r t ih =>
        rename_i a b l1 l2
        refine .cons ?_ ih
        obtain ⟨k1, v1⟩ := a
        obtain ⟨k2, d1⟩ := b
        obtain ⟨e1, rp⟩ := r
        have e1 : k1 = k2 := e1
        subst e1
        dsimp only
        split
        · exact ⟨rfl, rv⟩
        · exact ⟨rfl, rp⟩
    exact go h
  · have go : ∀ {ws : List (κ × V)} {kvs : List (κ × D)}, KvAll K G ws kvs → KvAll K G (ws ++ [(k, v)]) (kvs ++ [(k, d)]) := by
      intro ws kvs h
      induction h with
      | nil => exact .cons ⟨rfl, rv⟩ .nil
      | cons r t ih => exact .cons r ih
    exact go h
/-- a key from data -/
def keyOf : D → Option L2.Key
  | .int i => some (.inl i)
  | .str x => some (.inr x)
  | _ => none
theorem keyOf_ok {K : Fg} {w : Wd} {x : V} {d : D} {k : L2.Key} (h : OdOk K w x (.d d)) (e : keyOf d = some k) : x = kV k := by
  unfold keyOf at e
  split at e
  · cases e; exact h.int
  · cases e; exact h.str
  · cases e
def keysOf : List D → Option (List L2.Key)
  | [] => some []
  | d :: r => match keyOf d, keysOf r with
    | some k, some l => some (k :: l)
    | _, _ => none
theorem rp_key {K : Fg} {H : Hp} {x : V} {d : D} {k : L2.Key} (h : Rp K H x d) (e : keyOf d = some k) : x = kV k := by
  unfold keyOf at e
  split at e
  · cases e; cases h; rfl
  · cases e; cases h; rfl
  · cases e
theorem keysOf_ok {K : Fg} {H : Hp} : ∀ {vs : List V} {ds : List D} {ks : List L2.Key}, RpAll K H vs ds → keysOf ds = some ks → vs = ks.map kV
  | _, _, ks, .nil, e => by
    cases e
    rfl
  | _, _, ks, .cons r t, e => by
    unfold keysOf at e
    split at e
    · rename_i k l h1 h2
      cases e
      rw [rp_key r h1, keysOf_ok t h2]
      rfl
    · cases e
def keyT : D → Option (List L2.Key)
  | .tuple ds => keysOf ds
  | _ => none
def getT (es : List (D × D)) (k : List L2.Key) : Option D := (es.find? fun e => decide (keyT e.1 = some k)).map (·.2)
theorem keyOf_kD {k : L2.Key} : keyOf (kD k) = some k := by
  cases k <;> rfl
theorem keysOf_kD : ∀ {ks : List L2.Key}, keysOf (ks.map kD) = some ks
  | [] => rfl
  | k :: ks => by
    show (match keyOf (kD k), keysOf (ks.map kD) with
      | some k, some l => some (k :: l)
      | _, _ => none) = _
    rw [keyOf_kD, keysOf_kD]
theorem keyT_tupK {k : List L2.Key} : keyT (tupK k) = some k := keysOf_kD
/-- what a look into a dict gives -/
def look : Od → Od → Option (Option D)
  | .c (.k kvs), .d x => match keyOf x with
    | some k => some (getD kvs k)
    | none => none
  | .c (.g (.kl kvs)), .d x => match keyOf x with
    | some k => some (getD kvs k)
    | none => none
  | .c (.t kvs), .d (.tuple ds) => match keysOf ds with
    | some k => some (getD kvs k)
    | none => none
  | .d (.dict ((.list [], .none) :: es)), .d (.tuple ds) => match keysOf ds with
    | some k => some (getT es k)
    | none => none
  | _, _ => none
def LkR (K : Fg) (G : Hp) : Option D → Option V → Prop
  | some d, r' => ∃ v, r' = some v ∧ Rp K G v d
  | none, r' => r' = none
theorem kt_get {K : Fg} {G : Hp} {k : List L2.Key} : ∀ {ws : List (List L2.Key × V)} {es : List (D × D)}, RpKt K G ws es → LkR K G (getT es k) (valV ws k)
  | _, _, .nil => rfl
  | _, _, .cons (k := k1) (v := v) (ws := ws) (d := d) (es := es) r t => by
    by_cases h : k1 = k
    · have e1 : getT ((tupK k1, d) :: es) k = some d := by
        unfold getT
        rw [List.find?_cons_of_pos (by rw [keyT_tupK, h]; exact decide_eq_true rfl)]
        rfl
      have e2 : valV ((k1, v) :: ws) k = some v := by
        unfold valV
        rw [List.find?_cons_of_pos (by exact decide_eq_true h)]
        rfl
      rw [e1, e2]
      exact ⟨v, rfl, r⟩
    · have e1 : getT ((tupK k1, d) :: es) k = getT es k := by
        unfold getT
        rw [List.find?_cons_of_neg (by rw [keyT_tupK]; simpa using h)]
      have e2 : valV ((k1, v) :: ws) k = valV ws k := by
        unfold valV
        rw [List.find?_cons_of_neg (by simpa using h)]
      rw [e1, e2]
      exact kt_get t
theorem look_ok {K : Fg} {w : Wd} {x y : V} {o o' : Od} {r : Option D} (hx : Same w.G w.H) (h : OdOk K w x o) (h' : OdOk K w y o') (e : look o o' = some r) : ∃ a r', x = .ref a ∧ DGet w.H a y r' ∧ LkR K w.G r r' := by
  unfold look at e
  split at e
  · rename_i kvs z
    split at e
    · rename_i k ek
      cases e
      obtain ⟨p, rfl, ⟨_, ws, hw, ra⟩, _⟩ := h
      refine ⟨p, valV ws k, rfl, ?_, ?_⟩
      · rw [keyOf_ok h' ek]
        exact DGet.k hw
      · cases e2 : getD kvs k with
        | none => exact kv_none ra e2
        | some d => exact kv_get ra e2
    · cases e
  · rename_i kvs z
    split at e
    · rename_i k ek
      cases e
      obtain ⟨p, rfl, ⟨_, u, hw, od, ws, rfl, ra⟩, _⟩ := h
      refine ⟨p, valV ws k, rfl, ?_, ?_⟩
      · rw [keyOf_ok h' ek]
        exact .inl ⟨ws, k, .inr ⟨od, hw⟩, rfl, rfl⟩
      · cases e2 : getD kvs k with
        | none => exact kv_none ra e2
        | some d => exact kv_get ra e2
    · cases e
  · rename_i kvs z
    split at e
    · rename_i k ek
      cases e
      obtain ⟨p, rfl, ⟨_, ws, hw, ra⟩, _⟩ := h
      obtain ⟨q, vs, rfl, hq, rq⟩ := h'.tup
      refine ⟨p, valV ws k, rfl, ?_, ?_⟩
      · refine DGet.t hw ?_
        rw [← keysOf_ok rq ek]
        exact hx _ _ hq
      · cases e2 : getD kvs k with
        | none => exact kv_none ra e2
        | some d => exact kv_get ra e2
    · cases e
  · split at e
    · rename_i k ek
      cases e
      obtain ⟨p, od, ws, rfl, hw, ra⟩ := OdOk.dictT h
      obtain ⟨q, vs, rfl, hq, rq⟩ := h'.tup
      refine ⟨p, valV ws k, rfl, .inr ⟨ws, k, q, .inr ⟨od, hx _ _ hw⟩, rfl, ?_, rfl⟩, kt_get ra⟩
      rw [← keysOf_ok rq ek]
      exact hx _ _ hq
    · cases e
  · cases e
def opItem (o o' : Od) : Option Rv := match look o o' with
  | some (some d) => some (.d d)
  | _ => none
theorem e_item {o i : Expr} {co ci : CE} {pos : Pos} (hu : X.A.units + 1 < cLine) (h1 : Ex X ec W o co) (h2 : Ex X ec W i ci) (hs : NoSl i := by exact fun _ _ => rfl) : Ex X ec W (.Subscript o i pos) (cOp2 opItem co ci) := (pe_dget hu h1 h2 hs).imp fun σ H Q h =>
  op2 (r := fun x y H Q => ∃ a v, x = .ref a ∧ DGet H a y (some v) ∧ Q v H) (fun w x y o o' rv Q hx hx1 hx2 e q => by
    unfold opItem at e
    split at e
    · rename_i d ed
      cases e
      obtain ⟨a, r', rfl, g, q2⟩ := look_ok hx hx1 hx2 ed
      obtain ⟨v, rfl, rp⟩ := q2
      exact ⟨a, v, rfl, g, post_d q rp⟩
    · cases e) h
/-- a reading by the arguments' order turned -/
def cOp2r (f : Od → Od → Option Rv) (a b : CE) : CE := cOp2 (fun o o' => f o' o) a b
def opHasNot (o o' : Od) : Option Rv := match look o o' with
  | some r => some (.d (.bool (!r.isSome)))
  | none => none
theorem isSome_of {K : Fg} {G : Hp} {r : Option D} {r' : Option V} (h : LkR K G r r') : r'.isSome = r.isSome := by
  cases r with
  | none =>
    have h : r' = none := h
    rw [h]
    rfl
  | some d =>
    obtain ⟨v, e, _⟩ := h
    rw [e]
    rfl
theorem s_hasNot {K : Fg} : Op2S K (fun y x H Q => ∃ a o, x = .ref a ∧ DGet H a y o ∧ Q (.bl (!o.isSome)) H) (fun o o' => opHasNot o' o) := by
  intro w x y o o' rv Q hx hx1 hx2 e q
  have e : opHasNot o' o = some rv := e
  unfold opHasNot at e
  split at e
  · rename_i r er
    cases e
    obtain ⟨a, r', rfl, g, q2⟩ := look_ok hx hx2 hx1 er
    exact ⟨a, r', rfl, g, by rw [isSome_of q2]; exact post_bool q⟩
  · cases e
theorem cB_rd {c : CE} {σ : L2.St} {H : Hp} {Q : Bool → Hp → Prop} (h : rdT X.K ec W (cB c) σ H Q) : rd X.K ec W c σ H fun x H' => ∃ k, x = .bl k ∧ Q k H' := by
  obtain ⟨w, s, rfl, hr, h⟩ := h
  unfold cB at h
  refine run_cv hr h fun x w1 s1 a le1 hr1 ha hn h1 => ?_
  split at h1
  · have ha : Rp X.K w1.G x (.bool _) := ha
    cases ha
    exact ⟨_, rfl, h1 w1 le1 hr1⟩
  · exact h1.elim
/-- comparisons as tests -/
theorem t_cmp {op : CmpOp} {a b : Expr} {ca cb : CE} {r : R2} {f : Od → Od → Option Rv} {pos : Pos} (ho : OpR X (compareOp op) r) (hs : Op2S X.K r f) (ha : Ex X ec W a ca) (hb : Ex X ec W b cb) (hm : behindInMarks op b = false := by first | exact nomark _ | rfl) : Tx X ec W (.Compare a [op] [b] pos) (cB (cOp2 f ca cb)) :=
  (pt_cmpR ho ha hb hm).imp fun _ _ _ h => op2 hs (cB_rd h)
theorem t_hasNot {i o : Expr} {ci co : CE} {pos : Pos} (hu : X.A.units + 1 < cLine) (h2 : Ex X ec W i ci) (h1 : Ex X ec W o co) (hm : behindInMarks .NotIn o = false := by rfl) : Tx X ec W (.Compare i [.NotIn] [o] pos) (cB (cOp2r opHasNot ci co)) := (pt_cmp (pc_dnotin hu h2 h1) hm).imp fun σ H Q h => op2 s_hasNot (cB_rd h)
/-- d[k] = v -/
def putIn : Cell → D → D → Option Cell
  | .k kvs, x, v => match keyOf x with
    | some k => if kvs.length < 16000000 then some (.k (putD kvs k v)) else none
    | none => none
  | .t kvs, .tuple ds, v => match keysOf ds with
    | some k => if kvs.length < 16000000 then some (.t (putD kvs k v)) else none
    | none => none
  | _, _, _ => none
theorem putIn_plain {c c' : Cell} {k d : D} (e : putIn c k d = some c') : c'.plain = true := by
  unfold putIn at e
  split at e
  · split at e
    · split at e
      · cases e
        rfl
      · cases e
    · cases e
  · split at e
    · split at e
      · cases e
        rfl
      · cases e
    · cases e
  · cases e
theorem lt16 {n : Nat} (h : n < 16000000) : n < sizeLine := Nat.lt_of_lt_of_le h (by decide)
theorem putIn_ok {K : Fg} {w : Wd} {p : Addr} {c c' : Cell} {y v : V} {k d : D} (hx : Same w.G w.H) (h : COk K w.G w.H p c) (hy : Rp K w.G y k) (hv : Rp K w.G v d) (e : putIn c k d = some c') :
    w.G p = none ∧ ∃ o, DPut w.H p y v (upd w.H p o) ∧ COk K w.G (upd w.H p o) p c' := by
  unfold putIn at e
  split at e
  · split at e
    · rename_i kvs x k' ek
      split at e
      · rename_i hl
        cases e
        obtain ⟨hg, ws, hw, ra⟩ := h
        refine ⟨hg, _, ?_, hg, _, upd_same, kv_put hv ra⟩
        rw [rp_key hy ek]
        exact DPut.k hw (by rw [paired_len ra]; exact lt16 hl)
      · cases e
    · cases e
  · split at e
    · rename_i kvs ds k' ek
      split at e
      · rename_i hl
        cases e
        obtain ⟨hg, ws, hw, ra⟩ := h
        cases hy with
        | tup hq rq =>
          refine ⟨hg, _, ?_, hg, _, upd_same, kv_put hv ra⟩
          refine DPut.t hw ?_ (by rw [paired_len ra]; exact lt16 hl)
          rw [← keysOf_ok rq ek]
          exact hx _ _ hq
      · cases e
    · cases e
  · cases e
def cPut (co ci cw : CE) : CS := fun s => (cv cw s).out fun v s1 => (cv co s1).out fun o s2 => (cv ci s2).out fun i s3 => match v, o, i with
  | .d v, .ref n, .d k => match s3.m[n]? with
    | some c => match putIn c k v with
      | some c' => .nx ⟨s3.v, s3.m.set n c'⟩
      | none => .bad
    | none => .bad
  | _, _, _ => .bad
theorem s_dput {o i e : Expr} {co ci ce : CE} {pos' pos : Pos} (hu : X.A.units + 1 < cLine) (ho : Ex X ec W o co) (hi : Ex X ec W i ci) (he : Ex X ec W e ce) (hs : swapsWith e (some (.Subscript o i pos')) pos.line X.env = pure false := by rfl) : Sx X ec W (.Assign [.Subscript o i pos'] e pos) (cPut co ci ce) :=
  (ps_dput hu ho hi he hs).imp fun D σ H h => by
    obtain ⟨w, s, rfl, hr, h⟩ := h
    refine run_ev hr h fun xv w1 s1 v le1 r1 o1 hn1 h1 => ?_
    refine run_ev r1 (h1.le le1) fun xo w2 s2 o le2 r2 o2 hn2 h2 => ?_
    refine run_ev r2 (h2.le le2) fun xi w3 s3 i le3 r3 o3 hn3 h3 => ?_
    cases v with
    | new _ => exact h3.elim
    | t _ _ => exact h3.elim
    | ref _ => exact h3.elim
    | d v =>
      cases o with
      | new _ => exact h3.elim
      | t _ _ => exact h3.elim
      | d _ => exact h3.elim
      | ref n =>
        cases i with
        | new _ => exact h3.elim
        | t _ _ => exact h3.elim
        | ref _ => exact h3.elim
        | d k =>
          dsimp only at h3
          cases em : s3.m[n]? with
          | none => rw [em] at h3; exact h3.elim
          | some c =>
            rw [em] at h3
            dsimp only at h3
            cases ep : putIn c k v with
            | none => rw [ep] at h3; exact h3.elim
            | some c' =>
              rw [ep] at h3
              obtain ⟨p, rfl, hp⟩ := o2
              have hp3 := le3.cell hp
              obtain ⟨hg, u, dp, hc⟩ := putIn_ok r3.mem.ext (r3.mem.cell n p c hp3 em) o3 (Rp.mono (le2.trans le3).g _ _ o1) ep
              obtain ⟨r4, le4⟩ := cell_set r3 hp3 hg hc (nofrz_put dp) (putIn_plain ep)
              exact ⟨p, upd w3.H p u, rfl, dp, h3 σ ⟨w3.G, w3.r, w3.F, upd w3.H p u⟩ (le3.trans le4) r4⟩
end
end Vm
namespace Vm
open PySem L2
/-! ### what others hold -/
theorem Rel.f {K : Fg} {w : Wd} {σ : L2.St} {s : S} (r : Rel ec K w σ s) {F : Addr → Prop} (h : ∀ p, F p → w.G p = none ∧ p ∉ w.r ∧ ∃ o, w.H p = some o) (ht : TabOk ec F w.H) (hf : FT ec (w.f F)) : Rel ec K (w.f F) σ s :=
  ⟨⟨r.mem.ext, r.mem.len, r.mem.nd, r.mem.cell, h, ht, r.mem.inv, r.mem.gt, r.mem.nv.1, hf⟩, r.len, fun i sl e => by
    have q := r.slot i sl e
    cases sl with
    | u => trivial
    | d x => exact q
    | c n => exact q
    | x n => exact q
    | t _ _ => exact q
    | f => exact q
    | f2 => exact q⟩
/-- a new object that we hold for ourselves -/
abbrev Wd.hold (w : Wd) (p : Addr) (o : HO) : Wd := ⟨w.G, w.r, fun q => w.F q ∨ q = p, upd w.H p o⟩
theorem Rel.hold {K : Fg} {w : Wd} {σ : L2.St} {s : S} (r : Rel ec K w σ s) {p : Addr} {o : HO} (hp : w.H p = none) (n1 : NoTb o := by first | exact noTb_k | exact noTb_l | exact noTb_t) (n2 : NoTup o := by exact fun _ z => by cases z) : Rel ec K (w.hold p o) σ s := by
  have g := r.grow (gr_new (w := w) (o := o) hp)
  refine Rel.f g (F := fun q => w.F q ∨ q = p) (fun q hq => ?_) (g.mem.tab.f fun _ h => .inl h) fun q hq => hq.elim (fun hq => g.mem.nv.2 q hq) fun e => .inr ⟨o, by rw [e]; exact upd_same, n1, n2⟩
  rcases hq with hq | rfl
  · exact g.mem.fo q hq
  · refine ⟨r.mem.ext.free hp, fun m => ?_, o, upd_same⟩
    obtain ⟨u, hu⟩ := r.live m
    rw [hp] at hu
    cases hu
theorem Le.hold {w : Wd} {p : Addr} {o : HO} (hp : w.H p = none) : Le w ((w.hold p o).f w.F) := (gr_new (w := w) (o := o) hp).le
theorem Rel.new0 {K : Fg} {w : Wd} {σ : L2.St} {s : S} (r : Rel ec K w σ s) {p : Addr} (hp : w.H p = none) : ec.w.H p = none := by
  cases e : ec.w.H p with
  | none => rfl
  | some o =>
    by_cases m : p ∈ ec.w.r
    · obtain ⟨u, hu⟩ := r.live (r.mem.inv.mem m)
      rw [hp] at hu
      cases hu
    · obtain ⟨u, hu⟩ := r.mem.inv.kX e m
      rw [show w.H p = some u from hu] at hp
      cases hp
theorem nv_re {w : Wd} {m : List Cell} {p : Addr} {o : HO} (hp : p ∉ w.r) (n3 : NoTb o) (n4 : NoTup o) (h : NV ec w m) : NV ec ⟨w.G, w.r, w.F, upd w.H p o⟩ m := by
  refine ⟨⟨fun t q n j ds e1 e2 => ?_, fun t q x e1 e2 => ?_⟩, fun q hq => ?_⟩
  · obtain ⟨h1, h2⟩ := h.1.1 t q n j ds e1 e2
    refine ⟨h1, fun p' ks e3 e4 => ?_⟩
    obtain ⟨ws, k, e5, e6⟩ := h2 p' ks e3 e4
    refine ⟨ws, k, ?_, e6⟩
    show upd w.H p o p' = _
    have np : p' ≠ p := fun z => hp (z ▸ List.mem_of_getElem? e3)
    rw [upd_ne np]
    exact e5
  · have np : q ≠ p := fun z => hp (z ▸ List.mem_of_getElem? e1)
    refine (h.1.2 t q x e1 e2).mono (fun _ _ _ z => z) fun _ _ z => ?_
    show upd w.H p o q = _
    rw [upd_ne np]
    exact z
  · by_cases e : q = p
    · exact .inr ⟨o, by rw [e]; exact upd_same, n3, n4⟩
    · rcases h.2 q hq with z | ⟨u, e2, z⟩
      · exact .inl z
      · refine .inr ⟨u, ?_, z⟩
        show upd w.H p o q = _
        rw [upd_ne e]
        exact e2
/-- what we held is changed, by us -/
theorem Rel.rehold {K : Fg} {w : Wd} {σ : L2.St} {s : S} (r : Rel ec K w σ s) {p : Addr} {o o0 : HO} (hp : w.F p) (hh : w.H p = some o0) (n1 : NoTb o0) (n2 : ∀ f, o0 ≠ .ext f) (hz : ec.w.H p = none) (n3 : NoTb o := by first | exact noTb_k | exact noTb_l | exact noTb_t) (n4 : NoTup o := by exact fun _ z => by cases z) : Rel ec K ⟨w.G, w.r, w.F, upd w.H p o⟩ σ s := by
  obtain ⟨h1, h2, u, h3⟩ := r.mem.fo p hp
  refine ⟨⟨fun b x e => ?_, r.mem.len, r.mem.nd, fun n q c e1 e2 => ?_, fun q hq => ?_, r.mem.tab.put hh n1 (noX_of n2).1, ⟨r.mem.inv.g, fun a u e n => by
      obtain ⟨u', e1, q1⟩ := r.mem.inv.k a u e n
      refine ⟨u', ?_, q1⟩
      show upd w.H p o a = some u'
      rw [upd_ne (ne_of_none e hz)]
      exact e1, r.mem.inv.p, r.mem.inv.f, rfl, fun a od u e => by
      show upd w.H p o a = _
      rw [upd_ne (ne_of_none e hz)]
      exact r.mem.inv.z a od u e⟩, r.mem.gt, nv_re h2 n3 n4 r.mem.nv⟩, r.len, fun i sl e => ?_⟩
  · show upd w.H p o b = some x
    have hb : b ≠ p := by
      intro z
      subst z
      have e : w.G b = some x := e
      rw [h1] at e
      cases e
    rw [upd_ne hb]
    exact r.mem.ext b x e
  · have hq : q ≠ p := fun z => by
      subst z
      exact h2 (List.mem_of_getElem? e1)
    have c0 := r.mem.cell n q c e1 e2
    refine cOk_mono (Same.refl _) (fun hc => ?_) (fun x _ e => ?_) c0
    · show w.G q = none
      cases c with
      | l ds => exact c0.1
      | k kvs => exact c0.1
      | t kvs => exact c0.1
      | r ks => exact c0.1
      | i n j ds => exact c0.1
      | g x => exact c0.1
      | gone => exact absurd rfl hc
    · show upd w.H p o q = some x
      rw [upd_ne hq]
      exact e
  · obtain ⟨a, b, x, hx⟩ := r.mem.fo q hq
    refine ⟨a, b, ?_⟩
    by_cases e : q = p
    · subst e
      exact ⟨o, upd_same⟩
    · refine ⟨x, ?_⟩
      show upd w.H p o q = some x
      rw [upd_ne e]
      exact hx
  · have q := r.slot i sl e
    cases sl with
    | u => trivial
    | d x => exact q
    | c n => exact q
    | f => exact q
    | f2 => exact q
    | t _ _ => exact q
    | x n =>
      obtain ⟨z1, a, z2, z3, z4⟩ := q
      refine ⟨z1, a, z2, z3, ?_⟩
      show upd w.H p o a = some _
      have na : a ≠ p := fun z => by
        subst z
        rw [hh] at z4
        unfold ExO at z4
        exact n2 _ (Option.some.inj z4)
      rw [upd_ne na]
      exact z4
section
variable {X : Cx} {ec : EC} {W : WX}
/-! ### a written dict -/
def mergeD (acc : List (L2.Key × D)) : List L2.Key → List D → List (L2.Key × D)
  | k :: ks, d :: ds => mergeD (putD acc k d) ks ds
  | _, _ => acc
theorem kv_merge {K : Fg} {G : Hp} : ∀ (ks : List L2.Key) {vs : List V} {ds : List D} {acc : List (L2.Key × V)} {acd : List (L2.Key × D)}, RpAll K G vs ds → KvAll K G acc acd → KvAll K G (mergeK acc (ks.zip vs)) (mergeD acd ks ds)
  | [], vs, ds, acc, acd, h, q => by
    cases ds <;> exact q
  | k :: ks, _, _, acc, acd, .nil, q => q
  | k :: ks, _, _, acc, acd, .cons r t, q => by
    show KvAll K G (mergeK (putK acc k _) (ks.zip _)) (mergeD (putD acd k _) ks _)
    exact kv_merge ks t (kv_put r q)
structure DP (X : Cx) (ec : EC) (W : WX) (pos : Pos) (keys : List (Option Expr)) (values : List Expr) (ks : List L2.Key) (ca : CA) : Prop where
  ex : ∃ trs, PPs X pos keys values trs ∧ ∀ σ H (Q : List (V × V) → Hp → Prop), rdA X.K ec W ca σ H (fun vs H1 => vs.length = ks.length → Q ((ks.map kV).zip vs) H1) → (∀ s ds s', ca s = .ok ds s' → ds.length = ks.length) → tPairs trs σ H Q
theorem dp_nil {pos : Pos} : DP X ec W pos [] [] [] cNil := ⟨[], pps_nil, fun σ H Q h _ => by
  obtain ⟨w, s, rfl, hr, h⟩ := h
  exact h [] w (Le.refl w) hr .nil rfl⟩
theorem rd_cons {c : CE} {ca : CA} {σ : L2.St} {H : Hp} {Q : List V → Hp → Prop} (h : rdA X.K ec W (cCons c ca) σ H Q) : rd X.K ec W c σ H fun x H1 => rdA X.K ec W ca σ H1 fun vs H2 => Q (x :: vs) H2 := by
  obtain ⟨w, s, rfl, hr, h⟩ := h
  refine run_cv hr h fun x w1 s1 a le1 hr1 ha hn h1 => ?_
  cases a with
  | ref n => exact h1.elim
  | t _ _ => exact h1.elim
  | new c => exact absurd rfl (hn c)
  | d y =>
    refine ⟨w1, s1, rfl, hr1, ?_⟩
    refine Res.mono h1.bind (fun ds s2 h2 vs w2 le2 hr2 rp => ?_) fun _ _ q => okE_le le1 q
    exact h2 (x :: vs) w2 (le1.trans le2) hr2 (.cons (Rp.mono le2.g _ _ ha) rp)
theorem dp_cons {pos : Pos} {k : Expr} {key : L2.Key} {v : Expr} {kes : List (Option Expr)} {vs : List Expr} {ks : List L2.Key} {c : CE} {ca : CA} {n : Nat} (hk : PE X k (tC (kV key))) (hv : Ex X ec W v c) (hr : DP X ec W pos kes vs ks ca) (hl : CLen n ca) (hn : ks.length = n) : DP X ec W pos (some k :: kes) (v :: vs) (key :: ks) (cCons c ca) := by
  obtain ⟨trs, h1, h2⟩ := hr.ex
  refine ⟨(tC (kV key), rd X.K ec W c) :: trs, pps_cons hk hv h1, fun σ H Q h _ => ?_⟩
  show rd X.K ec W c σ H fun y H2 => tPairs trs σ H2 fun ps H3 => Q ((kV key, y) :: ps) H3
  obtain ⟨w, s, e, hr, h3⟩ := rd_cons h
  refine ⟨w, s, e, hr, Res.mono h3 (fun rv s' q x w' le r' o f => ?_) fun _ _ q => q⟩
  refine h2 σ w'.H _ ?_ fun s ds s' e => by rw [hl s ds s' e, hn]
  obtain ⟨w2, s2, e2, r2, h4⟩ := q x w' le r' o f
  refine ⟨w2, s2, e2, r2, Res.mono h4 (fun ds s3 q3 vs w3 le3 r3 rp hlen => ?_) fun _ _ q => q⟩
  have e5 : (key :: ks).map kV = kV key :: ks.map kV := rfl
  have q4 := q3 vs w3 le3 r3 rp (by rw [List.length_cons, List.length_cons, hlen])
  rw [e5, List.zip_cons_cons] at q4
  exact q4
def cDisp (ks : List L2.Key) (ca : CA) : CE := fun s => (ca s).bind fun ds s1 => .ok (.new (.k (mergeD [] ks ds))) s1
theorem e_disp {keys : List (Option Expr)} {values : List Expr} {ks : List L2.Key} {ca : CA} {pos : Pos} (h : DP X ec W pos keys values ks ca) (hl : CLen ks.length ca) (h15 : ks.length ≤ 15) (hall : keys.all (·.isSome) = true := by rfl) (hle : keys.length = values.length := by rfl) (h0 : keys ≠ [] := by exact fun z => by cases z) (h15' : keys.length ≤ 15 := by decide) :
    Ex X ec W (.Dict keys values pos) (cDisp ks ca) := by
  obtain ⟨trs, h1, h2⟩ := h.ex
  refine (pe_disp h1 hall hle h0 h15').imp fun σ H Q h => ?_
  obtain ⟨w, s, rfl, hr, h⟩ := h
  intro p hp
  refine h2 σ _ _ ?_ fun s ds s' e => hl s ds s' e
  have hh := hr.hold (o := .dK []) hp
  refine ⟨w.hold p (.dK []), s, rfl, hh, ?_⟩
  have back : ∀ {w' : Wd} {s' : S}, Le (w.hold p (.dK [])) w' → Rel ec X.K w' σ s' → Le w (w'.f w.F) ∧ Rel ec X.K (w'.f w.F) σ s' := fun {w' s'} le r => by
    have hq' : ∀ q, w.F q → w'.F q := fun q hq => by
      rw [le.s]
      exact .inl hq
    exact ⟨(Le.hold hp).trans (le.ch w.F), r.f (fun q hq => r.mem.fo q (hq' q hq)) (hr.mem.tab.back r.mem.tab) fun q hq => r.mem.nv.2 q (hq' q hq)⟩
  unfold cDisp at h
  refine Res.mono h.bind (fun ds s1 q vs w1 le1 r1 ra hlen => ?_) fun e s' q w' le r => by
    obtain ⟨a, b⟩ := back le r
    exact q (w'.f w.F) a b
  have hF : w1.F p := by
    rw [le1.s]
    exact .inr rfl
  have hH : w1.H p = some (.dK []) := le1.kN (p := p) upd_same (fun m => by
    have m : p ∈ w.r := m
    obtain ⟨u, hu⟩ := hr.live m
    rw [hp] at hu
    cases hu) noTb_k
  refine ⟨hH, ks.zip vs, ?_, ?_, ?_⟩
  · have go : ∀ (ks : List L2.Key) (vs : List V), (ks.map kV).zip vs = (ks.zip vs).map fun kv => (kV kv.1, kv.2) := by
      intro ks
      induction ks with
      | nil => intro vs; rfl
      | cons k ks ih =>
        intro vs
        cases vs with
        | nil => rfl
        | cons v vs =>
          show (kV k, v) :: (ks.map kV).zip vs = (kV k, v) :: (ks.zip vs).map _
          rw [ih]
    exact go ks vs
  · rw [List.length_zip]
    exact Nat.le_trans (Nat.min_le_left _ _) h15
  · have r2 := r1.rehold (o := .dK (mergeK [] (ks.zip vs))) hF hH noTb_k (fun _ z => by cases z) (hr.new0 hp)
    obtain ⟨h3, h4, _⟩ := r1.mem.fo p hF
    have r3 : Rel ec X.K ⟨w1.G, w1.r, w.F, upd w1.H p (.dK (mergeK [] (ks.zip vs)))⟩ σ s1 := r2.f (fun q hq => r2.mem.fo q (by
      show w1.F q
      rw [le1.s]
      exact .inl hq)) (hr.mem.tab.back r2.mem.tab) fun q hq => r2.mem.nv.2 q (by
      show w1.F q
      rw [le1.s]
      exact .inl hq)
    have l3 : Le w ⟨w1.G, w1.r, w.F, upd w1.H p (.dK (mergeK [] (ks.zip vs)))⟩ := by
      have l1 := (Le.hold (o := .dK []) hp).trans (le1.ch w.F)
      refine ⟨l1.g, fun a u e n => ?_, l1.p, l1.f, rfl, fun a od u e => by show upd w1.H p _ a = _; rw [upd_ne (ne_of_none e hp)]; exact l1.z a od u e⟩
      obtain ⟨u', e', q'⟩ := l1.k a u e n
      refine ⟨u', ?_, q'⟩
      show upd w1.H p _ a = some u'
      rw [upd_ne (ne_of_none e hp)]
      exact e'
    have nf : ¬ w.F p := fun z => by
      obtain ⟨_, _, u, hu⟩ := hr.mem.fo p z
      rw [hp] at hu
      cases hu
    exact q (.ref p) ⟨w1.G, w1.r, w.F, upd w1.H p (.dK (mergeK [] (ks.zip vs)))⟩ l3 r3 ⟨p, rfl, ⟨h4, nf⟩, h3, _, upd_same, kv_merge ks ra .nil⟩ fun _ _ p' e => by
      cases e
      exact hp
/-! ### lists by their methods -/
/-- f takes the list and gives the answer and the list behind -/
def cMut (f : List D → List D → Option (D × List D)) (co : CE) (ca : CA) : CE := fun s => (cv co s).bind fun o s1 => match o with
  | .ref n => match s1.m[n]? with
    | some (.l _) => (ca s1).bind fun ds s2 => match s2.m[n]? with
      | some (.l xs) => match f xs ds with
        | some (d, ys) => .ok (.d d) ⟨s2.v, s2.m.set n (.l ys)⟩
        | none => .bad
      | _ => .bad
    | _ => .bad
  | _ => .bad
/-- the rule of a method by values does what f says -/
def MutS (K : Fg) (r : V → List V → Hp → VK → Prop) (f : List D → List D → Option (D × List D)) : Prop := ∀ (w : Wd) (p : Addr) (vs : List V) (xs : List D) (us : List V) (ds : List D) (d : D) (ys : List D) (Q : VK), Same w.G w.H → w.G p = none → w.H p = some (.lst vs) → RpAll K w.G vs xs → RpAll K w.G us ds →
  f xs ds = some (d, ys) → (∀ x zs, Rp K w.G x d → RpAll K w.G zs ys → Q x (upd w.H p (.lst zs))) → r (.ref p) us w.H Q
theorem mut_ok {r : V → List V → Hp → VK → Prop} {f : List D → List D → Option (D × List D)} (hs : MutS X.K r f) {co : CE} {ca : CA} {σ : L2.St} {H : Hp} {Q : VK} (h : rd X.K ec W (cMut f co ca) σ H Q) : rd X.K ec W co σ H fun x H1 => tyV X.K "list" x H1 ∧ rdA X.K ec W ca σ H1 fun us H2 => r x us H2 Q := by
  obtain ⟨w, s, rfl, hr, h⟩ := h
  refine run_cv hr h fun x w1 s1 o le1 r1 ho hn h1 => ?_
  cases o with
  | d y => exact h1.elim
  | t _ _ => exact h1.elim
  | new c => exact absurd rfl (hn c)
  | ref n =>
    dsimp only at h1
    obtain ⟨p, rfl, hp⟩ := ho
    split at h1
    · rename_i xs0 e0
      obtain ⟨hg0, vs0, hv0, _⟩ := r1.mem.cell n p _ hp e0
      refine ⟨.inl ⟨rfl, vs0, SqL.of hv0⟩, w1, s1, rfl, r1, ?_⟩
      refine Res.mono h1.bind (fun ds s2 h2 us w2 le2 r2 ra => ?_) fun _ _ q => okE_le le1 q
      split at h2
      · rename_i xs e1
        split at h2
        · rename_i d ys e2
          have hp2 := le2.cell hp
          obtain ⟨hg, vs, hv, rx⟩ := r2.mem.cell n p _ hp2 e1
          refine hs w2 p vs xs us ds d ys Q r2.mem.ext hg hv rx ra e2 fun x zs rd' rz => ?_
          obtain ⟨r3, le3⟩ := cell_set (c := .l ys) (o := .lst zs) r2 hp2 hg ⟨hg, zs, upd_same, rz⟩ (nofrz_l hv)
          exact h2 x ⟨w2.G, w2.r, w2.F, upd w2.H p (.lst zs)⟩ ((le1.trans le2).trans le3) r3 rd' .d
        · exact h2.elim
      · exact h2.elim
    · exact h1.elim
theorem e_mut {r : V → List V → Hp → VK → Prop} {f : List D → List D → Option (D × List D)} {m : Str} {id : String} {o e : Expr} {es : List Expr} {apos cpos : Pos} {co : CE} {ca : CA} (hs : MutS X.K r f) (hm : MtR X id r) (slot : Slot "list" m id) (hty : typeOf (.builtin id) = pure (.type "method_descriptor"))
    (ho : Ex X ec W o co) (ha : PA X (e :: es) (rdA X.K ec W ca)) (hpe : ∀ {to : TE} {t : TA}, PE X o to → PA X (e :: es) t → PE X (.Call (.Attribute o m apos) (e :: es) [] cpos) (tBM X.K "list" r to t)) : Ex X ec W (.Call (.Attribute o m apos) (e :: es) [] cpos) (cMut f co ca) :=
  (hpe ho ha).imp fun σ H Q h => mut_ok hs h
theorem e_mut0 {r : V → List V → Hp → VK → Prop} {f : List D → List D → Option (D × List D)} {m : Str} {o : Expr} {apos cpos : Pos} {co : CE} (hs : MutS X.K r f) (ho : Ex X ec W o co) (hpe : ∀ {to : TE}, PE X o to → PE X (.Call (.Attribute o m apos) [] [] cpos) (tBM0 X.K "list" r to)) : Ex X ec W (.Call (.Attribute o m apos) [] [] cpos) (cMut f co cNil) :=
  (hpe ho).imp fun σ H Q h => by
    obtain ⟨w, s, e, hr, h⟩ := mut_ok hs h
    refine ⟨w, s, e, hr, Res.mono h (fun rv s' q x w' le r' o f => ?_) fun _ _ q => q⟩
    obtain ⟨h1, w2, s2, e2, r2, h2⟩ := q x w' le r' o f
    refine ⟨h1, ?_⟩
    rw [← e2]
    exact h2 [] w2 (Le.refl _) r2 .nil
def fApp : List D → List D → Option (D × List D)
  | xs, [d] => if xs.length < 16000000 then some (.none, xs ++ [d]) else none
  | _, _ => none
theorem m_append {K : Fg} : MutS K rAppend fApp := by
  intro w p vs xs us ds d ys Q hx hg hv rx ru e q
  unfold fApp at e
  split at e
  · split at e
    · rename_i d' hl
      cases e
      cases ru with
      | cons r1 r2 =>
        cases r2
        exact ⟨p, vs, _, rfl, rfl, hv, by rw [rx.length]; exact lt16 hl, q .non _ .non (rx.append (.cons r1 .nil))⟩
    · cases e
  · cases e
def fPop : List D → List D → Option (D × List D)
  | xs, [] => match xs[xs.length - 1]? with
    | some d => some (d, xs.dropLast)
    | none => none
  | _, _ => none
theorem rp_dropLast {K : Fg} {H : Hp} {vs : List V} {ds : List D} (h : RpAll K H vs ds) : RpAll K H vs.dropLast ds.dropLast := by
  rw [List.dropLast_eq_take, List.dropLast_eq_take, h.length]
  exact h.take _
theorem m_pop {K : Fg} : MutS K rPop fPop := by
  intro w p vs xs us ds d ys Q hx hg hv rx ru e q
  unfold fPop at e
  split at e
  · split at e
    · rename_i d' hd
      cases e
      cases ru
      obtain ⟨v, ev, rp⟩ := rx.get hd
      exact ⟨p, vs, v, rfl, rfl, hv, by rw [rx.length]; exact ev, q v _ rp (rp_dropLast rx)⟩
    · cases e
  · cases e
def fRev : List D → List D → Option (D × List D)
  | xs, [] => some (.none, xs.reverse)
  | _, _ => none
def fClr : List D → List D → Option (D × List D)
  | _, [] => some (.none, [])
  | _, _ => none
/-- xs[i] = e -/
def cPutL (co ci cw : CE) : CS := fun s => (cv cw s).out fun v s1 => (cv co s1).out fun o s2 => (cv ci s2).out fun i s3 => match v, o, i with
  | .d v, .ref n, .d (.int k) => match s3.m[n]? with
    | some (.l xs) => match ixN xs.length k with
      | some j => .nx ⟨s3.v, s3.m.set n (.l (xs.set j v))⟩
      | none => .bad
    | _ => .bad
  | _, _, _ => .bad
theorem s_putL {o i e : Expr} {co ci ce : CE} {pos' pos : Pos} (ho : Ex X ec W o co) (hi : Ex X ec W i ci) (he : Ex X ec W e ce) (hs : swapsWithSole [.Subscript o i pos'] e pos.line X.env = pure false := by rfl) (hw : swappedStores [.Subscript o i pos'] e X.env = pure none := by rfl) (h1 : (assignEach [.Subscript o i pos'] X.env).map (·.2) = [assign (.Subscript o i pos') X.env] := by rfl)
    (ha : ∀ v, assign (.Subscript o i pos') X.env v = (do
      let ov ← holding [v] (eval o X.env)
      let iv ← holding [v, ov] (eval i X.env)
      standAt pos'
      holding [v, ov, iv] (setItem ov iv v)
      release [v, ov, iv] []) := by intro _; rfl) : Sx X ec W (.Assign [.Subscript o i pos'] e pos) (cPutL co ci ce) :=
  (ps_asg he (pg_sub ho hi set_list ha) hs hw h1).imp fun D σ H h => by
    obtain ⟨w, s, rfl, hr, h⟩ := h
    refine run_ev hr h fun xv w1 s1 v le1 r1 o1 hn1 h1 => ?_
    refine run_ev r1 (h1.le le1) fun xo w2 s2 o le2 r2 o2 hn2 h2 => ?_
    refine run_ev r2 (h2.le le2) fun xi w3 s3 i le3 r3 o3 hn3 h3 => ?_
    split at h3
    · rename_i d n k
      split at h3
      · rename_i xs em
        split at h3
        · rename_i j ej
          obtain ⟨p, rfl, hp⟩ := o2
          have o3 : Rp X.K w3.G xi (.int k) := o3
          cases o3
          have hp3 := le3.cell hp
          obtain ⟨hg, vs, hv, ra⟩ := r3.mem.cell n p _ hp3 em
          have rd' : Rp X.K w3.G xv d := Rp.mono (le2.trans le3).g _ _ o1
          obtain ⟨r4, le4⟩ := cell_set (c := .l (xs.set j d)) (o := .lst (vs.set j xv)) r3 hp3 hg ⟨hg, _, upd_same, ra.set rd' j⟩ (nofrz_l hv)
          refine ⟨p, vs, k, j, rfl, rfl, hv, by rw [ra.length]; exact ej, ?_⟩
          exact h3 σ ⟨w3.G, w3.r, w3.F, upd w3.H p (.lst (vs.set j xv))⟩ (le3.trans le4) r4
        · exact h3.elim
      · exact h3.elim
    · exact h3.elim
/-! ### comprehensions -/
def R.nx {α : Type} : R α → R α
  | .ex _ _ => .bad
  | r => r
def wipeV (v : List Sl) : List Nat → List Sl
  | [] => v
  | i :: is => (wipeV v is).set i .u
abbrev W0 : WX := fun _ _ _ _ => False
def ctYes : CT := fun s => .ok true s
/-- the turns: what was kept so far, what is to come -/
def lcL (own : List Nat) (v0 : List Sl) (tg : Tg) (tt : CT) (el : CE) : List D → List D → List Cell → R Rv
  | [], acc, m => .ok (.new (.l acc)) ⟨v0, m⟩
  | d :: ds, acc, m => match tg d ⟨wipeV v0 own, m⟩ with
    | none => .bad
    | some s1 => (tt s1).nx.bind fun b s2 => if b = true then ((cv el s2).nx.bind fun a s3 => match a with
        | .d x => lcL own v0 tg tt el ds (acc ++ [x]) s3.m
        | _ => .bad) else lcL own v0 tg tt el ds acc s2.m
def cLc (own : List Nat) (ci : CI) (tg : Tg) (tt : CT) (el : CE) : CE := fun s => (ci s).bind fun ds s1 => if ds.length ≤ 16000000 then lcL own s1.v tg tt el ds [] s1.m else .bad
theorem rel_wipe {K : Fg} {w : Wd} {σ : L2.St} {v : List Sl} {m : List Cell} (r : Rel ec K w σ ⟨v, m⟩) : ∀ own : List Nat, Rel ec K w (wipe σ own) ⟨wipeV v own, m⟩
  | [] => r
  | i :: is => by
    have q := rel_wipe r is
    refine ⟨q.mem, by show ((wipe σ is).set i none).length = ((wipeV v is).set i .u).length; rw [List.length_set, List.length_set]; exact q.len, fun j sl e => ?_⟩
    have e : ((wipeV v is).set i .u)[j]? = some sl := e
    show SlOk ec K w ((wipe σ is).set i none)[j]? sl
    by_cases hj : i = j
    · subst hj
      by_cases hl : i < (wipeV v is).length
      · rw [List.getElem?_set_self hl] at e
        cases e
        trivial
      · rw [List.getElem?_eq_none (by rw [List.length_set]; omega)] at e
        cases e
    · rw [List.getElem?_set_ne hj] at e
      rw [List.getElem?_set_ne hj]
      exact q.slot j sl e
theorem wipe_off {own : List Nat} {σ σ' : L2.St} (h : Off own (wipe σ own) σ') : wipe σ' own = wipe σ own := by
  have key : ∀ (is : List Nat) (τ τ' : L2.St), τ'.length = τ.length → (∀ j, j ∉ is → τ'[j]? = τ[j]?) → wipe τ' is = wipe τ is := by
    intro is τ τ' hl hj
    refine List.ext_getElem? fun j => ?_
    by_cases hm : j ∈ is
    · have go : ∀ (is : List Nat) (τ : L2.St), j ∈ is → (wipe τ is)[j]? = if j < τ.length then some none else none := by
        intro is
        induction is with
        | nil => intro τ h; cases h
        | cons i is ih =>
          intro τ h
          show ((wipe τ is).set i none)[j]? = _
          by_cases hi : i = j
          · subst hi
            by_cases hl : i < τ.length
            · rw [List.getElem?_set_self (by rw [wipe_length]; exact hl), if_pos hl]
            · rw [List.getElem?_eq_none (by rw [List.length_set, wipe_length]; omega), if_neg hl]
          · rw [List.getElem?_set_ne hi]
            refine ih τ ?_
            rcases List.mem_cons.mp h with z | z
            · exact absurd z.symm hi
            · exact z
      rw [go is τ' hm, go is τ hm, hl]
    · rw [wipe_out hm, wipe_out hm]
      exact hj j hm
  have h2 : wipe σ' own = wipe (wipe σ own) own := key own _ _ h.1 h.2
  rw [h2]
  refine key own σ (wipe σ own) (wipe_length _ _) fun j hj => wipe_out hj
theorem t_yes {K : Fg} {σ : L2.St} {H : Hp} {Q : Bool → Hp → Prop} (h : rdT K ec W0 ctYes σ H Q) : tYes σ H Q := by
  obtain ⟨w, s, rfl, hr, h⟩ := h
  exact h w (Le.refl w) hr
theorem ts_nil {X : Cx} : PTs X [] (rdT X.K ec W0 ctYes) := ⟨fun pins s σ H Q I h => pts_nil.run pins s σ H Q I (t_yes h)⟩
theorem ts_one {X : Cx} {c : Expr} {ct : CT} (h : Tx X ec W0 c ct) : PTs X [c] (rdT X.K ec W0 ct) := pts_one h
theorem lc_read {σ : L2.St} {H : Hp} {Q : VK} {own : List Nat} {ci : CI} {tg : Tg} {tt : CT} {el : CE} (h : rd X.K ec W (cLc own ci tg tt el) σ H Q) :
    tLc (rdI X.K ec W ci) (rdG ec X.K own tg) (rdT X.K ec W0 tt) (rd X.K ec W0 el) own σ H Q := by
  obtain ⟨w, s, rfl, hr, h⟩ := h
  refine ⟨w, s, rfl, hr, ?_⟩
  unfold cLc at h
  cases e0 : ci s with
  | bad => rw [e0] at h; exact h
  | ex n s' => rw [e0] at h; exact h
  | ok ds s0 =>
    rw [e0] at h
    by_cases hz : ds.length ≤ 16000000
    · simp only [R.bind, hz, if_true] at h
      intro J w0 le0 r0 hJ Dp hD
      have h0 : FinV X.K ec W σ Q w0 (lcL own s0.v tg tt el ds [] s0.m) := FinV.le le0 h
      -- what holds between two turns
      refine ⟨fun i m H1 => ∃ w1 m1 acc vs, w1.H = H1 ∧ w1.F = (fun q => w0.F q ∨ q = Dp) ∧ Le w0 (w1.f w0.F) ∧ Rel ec X.K w1 σ ⟨s0.v, m1⟩ ∧ w1.H Dp = some (.lst vs) ∧ RpAll X.K w1.G vs acc ∧ acc.length ≤ i ∧ i + m = ds.length ∧ FinV X.K ec W σ Q w0 (lcL own s0.v tg tt el (ds.drop i) acc m1),
        ⟨ds.length, w0.hold Dp (.lst []), s0.m, [], [], rfl, rfl, Le.hold hD, r0.hold hD, upd_same, .nil, Nat.le_refl _, Nat.zero_add _, h0⟩, fun i m H1 hW => ?_⟩
      obtain ⟨w1, m1, acc, vs, rfl, hF, le1, r1, hd, ra, hacc, hm, h1⟩ := hW
      have r1f : Rel ec X.K (w1.f w0.F) σ ⟨s0.v, m1⟩ := r1.f (fun q hq => r1.mem.fo q (by rw [hF]; exact .inl hq)) (r0.mem.tab.back r1.mem.tab) fun q hq => r1.mem.nv.2 q (by rw [hF]; exact .inl hq)
      obtain ⟨hgo, hst⟩ := hJ (w1.f w0.F) le1 r1.mem.ext i
      have gD : w1.G Dp = none := (r1.mem.fo Dp (by rw [hF]; exact .inr rfl)).1
      have rD : Dp ∉ w1.r := (r1.mem.fo Dp (by rw [hF]; exact .inr rfl)).2.1
      have fD : ¬ w0.F Dp := fun z => by
        obtain ⟨_, _, o, ho⟩ := r0.mem.fo Dp z
        rw [hD] at ho
        cases ho
      by_cases hi : i < ds.length
      · have hdi : ds[i]? = some ds[i] := List.getElem?_eq_getElem hi
        obtain ⟨g1, g2⟩ := hgo _ hdi
        rw [List.drop_eq_getElem_cons hi] at h1
        unfold lcL at h1
        refine .inr ⟨g1, fun H' => ∃ w' m' acc' vs', w'.H = H' ∧ w'.F = (fun q => w0.F q ∨ q = Dp) ∧ Le w0 (w'.f w0.F) ∧ Rel ec X.K w' σ ⟨s0.v, m'⟩ ∧ w'.H Dp = some (.lst vs') ∧ RpAll X.K w'.G vs' acc' ∧ acc'.length ≤ i + 1 ∧ (i + 1) + (m - 1) = ds.length ∧ FinV X.K ec W σ Q w0 (lcL own s0.v tg tt el (ds.drop (i + 1)) acc' m'),
          fun H' ⟨w', m', acc', vs', a1, a2, a3, a4, a5, a6, a7, a8, a9⟩ => ⟨m - 1, by omega, w', m', acc', vs', a1, a2, a3, a4, a5, a6, a7, a8, a9⟩, fun x H' hy => ?_⟩
        obtain ⟨w2, gr, rfl, rp⟩ := g2 x H' hy
        have gr' : Gr w1 (w2.f w1.F) := ⟨gr.r, rfl, gr.g, gr.h, gr.e, gr.n, gr.t⟩
        have r2 : Rel ec X.K (w2.f w1.F) σ ⟨s0.v, m1⟩ := r1.grow gr'
        cases et : tg ds[i] ⟨wipeV s0.v own, m1⟩ with
        | none => rw [et] at h1; exact h1.elim
        | some s2 =>
          rw [et] at h1
          refine ⟨w2.f w1.F, ⟨wipeV s0.v own, m1⟩, ds[i], rfl, rel_wipe r2 own, rp, s2, et, fun σ' off r3 => ⟨wipe_off off, ?_⟩⟩
          dsimp only at h1
          -- the test
          refine ⟨w2.f w1.F, s2, rfl, r3, ?_⟩
          cases ett : tt s2 with
          | bad => rw [ett] at h1; exact h1.elim
          | ex n s' => rw [ett] at h1; exact h1.elim
          | ok b s3 =>
            rw [ett] at h1
            intro w3 le3 r4
            have hF3 : w3.F = (fun q => w0.F q ∨ q = Dp) := by rw [le3.s, ← hF]
            have lw3 : Le w0 (w3.f w0.F) := (le1.trans (gr'.le.ch w0.F)).trans (le3.ch w0.F)
            have d2 : (w2.f w1.F).H Dp = some (.lst vs) := gr.h _ _ hd
            have d3 : w3.H Dp = some (.lst vs) := le3.kN (p := Dp) d2 (by
              show Dp ∉ w2.r
              rw [gr.r]
              exact rD) noTb_l
            have ra3 : RpAll X.K w3.G vs acc := ra.mono (gr'.g.trans le3.g)
            have r4' : Rel ec X.K w3 σ ⟨s0.v, s3.m⟩ := rel_mem (m := m1) le3 r2 r4.mem
            cases b with
            | false =>
              rw [if_neg Bool.false_ne_true]
              simp only [R.nx, R.bind, Bool.false_eq_true, if_false] at h1
              exact ⟨w3, s3.m, acc, vs, rfl, hF3, lw3, r4', d3, ra3, by omega, by omega, h1⟩
            | true =>
              rw [if_pos rfl]
              simp only [R.nx, R.bind, if_true] at h1
              refine ⟨w3, s3, rfl, r4, ?_⟩
              unfold cv at h1
              cases eel : el s3 with
              | bad => simp only [eel, R.bind] at h1; exact h1.elim
              | ex n s' => simp only [eel, R.bind] at h1; exact h1.elim
              | ok a s4 =>
                simp only [eel, R.bind] at h1
                intro y w4 le4 r5 oa fr
                -- the element became data
                have go : ∀ (d : D) (w5 : Wd), w5.H = w4.H → Le w3 w5 → Rel ec X.K w5 σ' s4 → Rp X.K w5.G y d → FinV X.K ec W σ Q w0 (lcL own s0.v tg tt el (ds.drop (i + 1)) (acc ++ [d]) s4.m) → ∃ acc', w4.H Dp = some (.lst acc') ∧ acc'.length < sizeLine ∧ ∃ w' m' acc'' vs', w'.H = upd w4.H Dp (.lst (acc' ++ [y])) ∧ w'.F = (fun q => w0.F q ∨ q = Dp) ∧ Le w0 (w'.f w0.F) ∧ Rel ec X.K w' σ ⟨s0.v, m'⟩ ∧ w'.H Dp = some (.lst vs') ∧ RpAll X.K w'.G vs' acc'' ∧ acc''.length ≤ i + 1 ∧ (i + 1) + (m - 1) = ds.length ∧ FinV X.K ec W σ Q w0 (lcL own s0.v tg tt el (ds.drop (i + 1)) acc'' m') := by
                  intro d w5 eH le5 r6 rpd h4
                  have hF5 : w5.F = (fun q => w0.F q ∨ q = Dp) := by rw [le5.s, hF3]
                  have d5 : w5.H Dp = some (.lst vs) := le5.kN d3 (r4'.mem.fo Dp (by rw [hF3]; exact .inr rfl)).2.1 noTb_l
                  have ra5 : RpAll X.K w5.G vs acc := ra3.mono le5.g
                  have r6' : Rel ec X.K w5 σ ⟨s0.v, s4.m⟩ := rel_mem (m := s3.m) le5 r4' r6.mem
                  have fD5 : w5.F Dp := by rw [hF5]; exact .inr rfl
                  have r7 := r6'.rehold (o := .lst (vs ++ [y])) fD5 d5 noTb_l (fun _ z => by cases z) (r0.new0 hD)
                  have lw5 : Le w0 (w5.f w0.F) := lw3.trans (le5.ch w0.F)
                  have lw7 : Le w0 ((⟨w5.G, w5.r, w5.F, upd w5.H Dp (.lst (vs ++ [y]))⟩ : Wd).f w0.F) := ⟨lw5.g, fun q u e n => by
                    obtain ⟨u', e', q'⟩ := lw5.k q u e n
                    refine ⟨u', ?_, q'⟩
                    show upd w5.H Dp _ q = some u'
                    rw [upd_ne (ne_of_none e hD)]
                    exact e', lw5.p, lw5.f, rfl, fun a od u e => by show upd w5.H _ _ a = _; rw [upd_ne (ne_of_none e hD)]; exact lw5.z a od u e⟩
                  rw [← eH]
                  refine ⟨vs, d5, ?_, ⟨w5.G, w5.r, w5.F, upd w5.H Dp (.lst (vs ++ [y]))⟩, s4.m, acc ++ [d], vs ++ [y], rfl, hF5, lw7, r7, upd_same, ra5.append (.cons rpd .nil), ?_, by omega, h4⟩
                  · rw [ra5.length]
                    exact lt16 (by omega)
                  · rw [List.length_append]
                    show acc.length + 1 ≤ i + 1
                    omega
                cases a with
                | ref n => exact h1.elim
                | t _ _ => exact h1.elim
                | d d => exact go d w4 rfl le4 r5 oa h1
                | new c =>
                  cases ed : c.D? with
                  | none => simp only [ed] at h1; exact h1.elim
                  | some d =>
                    simp only [ed] at h1
                    obtain ⟨G', r6, le6, rp6⟩ := freeze r5 oa (d := d) ed
                    exact go d ⟨G', w4.r, w4.F, w4.H⟩ rfl (le4.trans le6) r6 rp6 h1
      · refine .inl ⟨hst (by omega), ?_⟩
        rw [List.drop_eq_nil_of_le (by omega)] at h1
        exact h1 (.ref Dp) (w1.f w0.F) le1 r1f ⟨Dp, rfl, ⟨rD, fD⟩, gD, vs, hd, ra⟩ fun _ _ p e => by
          cases e
          exact hD
    · simp only [R.bind, hz, if_false] at h
      exact h.elim
theorem e_lc {elt tgt iter : Expr} {ifs : List Expr} {scope : Scope} {own : List (Str × Nat)} {pos : Pos} {ci : CI} {tg : Tg} {tt : CT} {el : CE} (hN : X.N.Nodup) (ok : BlkOk X.N X.env.scope scope own) (hi : Ix X ec W tgt iter ci)
    (hg : ∀ (s : Shared) (H : Hp) (C : Addr) (cl : List (Str × Addr)) (fp : List Addr), PG (X.blk s H scope (compEnvC scope cl C X.env) fp) tgt (rdG ec X.K (own.map (·.2)) tg))
    (ht : ∀ (s : Shared) (H : Hp) (C : Addr) (cl : List (Str × Addr)) (fp : List Addr), PTs (X.blk s H scope (compEnvC scope cl C X.env) fp) ifs (rdT X.K ec W0 tt))
    (he : ∀ (s : Shared) (H : Hp) (C : Addr) (cl : List (Str × Addr)) (fp : List Addr), PE (X.blk s H scope (compEnvC scope cl C X.env) fp) elt (rd X.K ec W0 el)) (hcal : X.calm = true := by rfl) (hs : ∀ x, foldedSetIterable iter X.env x = pure x := by intro _; rfl) :
    Ex X ec W (.ListComp elt [⟨tgt, iter, ifs, 0⟩] scope pos) (cLc (own.map (·.2)) ci tg tt el) := (pe_lc hcal hN hi ok hg ht he hs).imp fun σ H Q h => lc_read h
/-- name = [..] on one line -/
theorem lc_set {D : Ends} {σ : L2.St} {H : Hp} {own : List Nat} {ci : CI} {tg : Tg} {tt : CT} {el : CE} {i : Nat} {g : TG} (h : tAsg (rd X.K ec W (cLc own ci tg tt el)) g D σ H) : tAsg (tLc (rdI X.K ec W ci) (rdG ec X.K own tg) (rdT X.K ec W0 tt) (rd X.K ec W0 el) own) g D σ H := lc_read h
theorem s_setLcM (i : Nat) {y : Str} {py : Pos} {elt tgt iter : Expr} {ifs : List Expr} {scope : Scope} {own : List (Str × Nat)} {pos spos : Pos} {ci : CI} {tg : Tg} {tt : CT} {el : CE} (hN : X.N.Nodup) (ok : BlkOk X.N X.env.scope scope own) (hi : Ix X ec W tgt iter ci)
    (hg : ∀ (s : Shared) (H : Hp) (C : Addr) (cl : List (Str × Addr)) (fp : List Addr), PG (X.blk s H scope (compEnvC scope cl C X.env) fp) tgt (rdG ec X.K (own.map (·.2)) tg))
    (ht : ∀ (s : Shared) (H : Hp) (C : Addr) (cl : List (Str × Addr)) (fp : List Addr), PTs (X.blk s H scope (compEnvC scope cl C X.env) fp) ifs (rdT X.K ec W0 tt))
    (he : ∀ (s : Shared) (H : Hp) (C : Addr) (cl : List (Str × Addr)) (fp : List Addr), PE (X.blk s H scope (compEnvC scope cl C X.env) fp) elt (rd X.K ec W0 el)) (hcal : X.calm = true := by rfl) (hy : X.N[i]? = some y := by rfl) (hyl : X.env.scope.names.lookup y = some .local := by rfl)
    (hsw : swapsWith (.ListComp elt [⟨tgt, iter, ifs, 0⟩] scope pos) (some (.Name y py)) spos.line X.env = pure true := by exact sw_true rfl rfl rfl (by decide +kernel)) (hs : ∀ x, foldedSetIterable iter X.env x = pure x := by intro _; rfl) :
    Sx X ec W (.Assign [.Name y py] (.ListComp elt [⟨tgt, iter, ifs, 0⟩] scope pos) spos) (cSetM i (cLc (own.map (·.2)) ci tg tt el)) :=
  (ps_setLc hcal hN hy hyl hsw hi ok hg ht he hs).imp fun D σ H h => lc_set (i := i) (rd_setM h)
end
end Vm
namespace Vm
open PySem L2
section
variable {X : Cx} {ec : EC} {W : WX}
/-! ### slices -/
def cutD {α : Type} (xs : List α) (lo hi : Option Int) : List α := (xs.drop (HT.sIx xs.length 0 lo)).take (HT.sIx xs.length xs.length hi - HT.sIx xs.length 0 lo)
theorem rp_cut {K : Fg} {G : Hp} {vs : List V} {ds : List D} (lo hi : Option Int) (h : RpAll K G vs ds) : RpAll K G (cutV vs lo hi) (cutD ds lo hi) := by
  unfold cutV cutD
  rw [h.length]
  exact (h.drop _).take _
theorem SlR.or {r r' : V → Option Int → Option Int → Hp → VK → Prop} (h : SlR X r) (h' : SlR X r') : SlR X (fun x lo hi H Q => r x lo hi H Q ∨ r' x lo hi H Q) := by
  intro pins s σ H x v vl vu lo hi sl Q I rx hs pl pu hh
  rcases hh with hh | hh
  · exact h pins s σ H x v vl vu lo hi sl Q I rx hs pl pu hh
  · exact h' pins s σ H x v vl vu lo hi sl Q I rx hs pl pu hh
def rSlV (K : Fg) : V → Option Int → Option Int → Hp → VK → Prop := fun x lo hi H Q => rSlL K x lo hi H Q ∨ rSlA K x lo hi H Q
theorem slr_V : SlR X (rSlV X.K) := SlR.or sl_list sl_tupA
def opSl : Od → Option Int → Option Int → Option Rv
  | .d (.list ds), lo, hi => some (.new (.l (cutD ds lo hi)))
  | .d (.tuple ds), lo, hi => some (.d (.tuple (cutD ds lo hi)))
  | _, _, _ => none
theorem cut_whole {α : Type} {xs : List α} {lo hi : Option Int} (h : HT.sIx xs.length 0 lo = 0 ∧ HT.sIx xs.length xs.length hi = xs.length) : cutD xs lo hi = xs := by
  unfold cutD
  rw [h.1, h.2, List.drop_zero, Nat.sub_zero, List.take_length]
theorem s_sl {K : Fg} {w : Wd} {x : V} {o : Od} {lo hi : Option Int} {rv : Rv} {Q : VK} (hx : Same w.G w.H) (h : OdOk K w x o) (e : opSl o lo hi = some rv) (q : Post K w rv Q) : rSlV K x lo hi w.H Q := by
  unfold opSl at e
  split at e
  · cases e
    obtain ⟨p, vs, rfl, hs, ra⟩ := h.list hx
    exact .inl ⟨p, vs, rfl, hs, fun a ha => post_lst q (rp_cut lo hi ra) ha hx⟩
  · cases e
    obtain ⟨p, vs, rfl, hs, ra⟩ := h.tup
    refine .inr ⟨p, vs, rfl, SqT.of (hx _ _ hs), fun hw => ?_, fun hw a ha => post_tup q (rp_cut lo hi ra) ha hx⟩
    rw [ra.length] at hw
    rw [cut_whole hw] at q
    exact post_d q (.tup hs ra)
  · cases e
def cI (c : CE) : S → R Int := fun s => (cv c s).bind fun a s1 => match a with
  | .d (.int i) => .ok i s1
  | _ => .bad
def cPt : Option CE → S → R (Option Int)
  | none => fun s => .ok none s
  | some c => fun s => (cI c s).bind fun i s1 => .ok (some i) s1
def rdO (K : Fg) (ec : EC) (W : WX) (c : S → R (Option Int)) : TO := fun σ H Q => ∃ w s, w.H = H ∧ Rel ec K w σ s ∧ Res (fun o s' => ∀ w', Le w w' → Rel ec K w' σ s' → Q o w'.H) (okE K ec W σ w) (c s)
theorem PO.imp {e : Option Expr} {t t' : TO} (h : PO X e t) (i : ∀ σ H Q, t' σ H Q → t σ H Q) : PO X e t' := ⟨fun pins s σ H Q I q => h.run pins s σ H Q I (i _ _ _ q)⟩
theorem o_none : PO X none (rdO X.K ec W (cPt none)) := PO.imp po_none fun σ H Q h => by
  obtain ⟨w, s, rfl, hr, h⟩ := h
  exact h w (Le.refl w) hr
theorem run_i {K : Fg} {σ : L2.St} {w : Wd} {s : S} {α : Type} {c : CE} {k : Int → S → R α} {P : α → S → Prop} {Q : VK} (hr : Rel ec K w σ s) (h : Res P (okE K ec W σ w) ((cI c s).bind k))
    (hk : ∀ i w1 s1, Le w w1 → Rel ec K w1 σ s1 → Res P (okE K ec W σ w) (k i s1) → Q (.int i) w1.H) : rd K ec W c σ w.H Q := by
  have h' : Res P (okE K ec W σ w) ((cv c s).bind fun a s1 => (match a with
    | .d (.int b) => R.ok b s1
    | _ => R.bad).bind k) := by
    unfold cI at h
    cases e : cv c s with
    | bad => rw [e] at h; exact h
    | ex n s' => rw [e] at h; exact h
    | ok a s' => rw [e] at h; exact h
  refine run_cv hr h' fun x w1 s1 a le1 hr1 ha hn h1 => ?_
  cases a with
  | ref n => exact h1.elim
  | t _ _ => exact h1.elim
  | new c => exact h1.elim
  | d y =>
    cases y with
    | int b =>
      have e : x = .int b := by
        have ha : Rp K w1.G x (.int b) := ha
        cases ha
        rfl
      rw [e]
      exact hk b w1 s1 le1 hr1 h1
    | none => exact h1.elim
    | bool _ => exact h1.elim
    | str _ => exact h1.elim
    | list _ => exact h1.elim
    | tuple _ => exact h1.elim
    | dict _ => exact h1.elim
theorem o_some {e : Expr} {c : CE} (h : Ex X ec W e c) : PO X (some e) (rdO X.K ec W (cPt (some c))) := PO.imp (po_some h) fun σ H Q h => by
  obtain ⟨w, s, rfl, hr, h⟩ := h
  exact run_i hr h fun i w1 s1 le1 r1 h1 => ⟨i, rfl, h1 w1 le1 r1⟩
def cSl (c : CE) (lo hi : S → R (Option Int)) : CE := fun s => (cv c s).bind fun a s1 => (lo s1).bind fun l s2 => (hi s2).bind fun u s3 => opt (a.od s3.m) fun o => opt (opSl o l u) fun rv => .ok rv s3
theorem run_o {K : Fg} {σ : L2.St} {w : Wd} {s : S} {α : Type} {c : S → R (Option Int)} {k : Option Int → S → R α} {P : α → S → Prop} {Q : Option Int → Hp → Prop} (hr : Rel ec K w σ s) (h : Res P (okE K ec W σ w) ((c s).bind k))
    (hk : ∀ b w1 s1, Le w w1 → Rel ec K w1 σ s1 → Res P (okE K ec W σ w) (k b s1) → Q b w1.H) : rdO K ec W c σ w.H Q := by
  refine ⟨w, s, rfl, hr, ?_⟩
  cases e : c s with
  | bad => rw [e] at h; exact h
  | ex n s' => rw [e] at h; exact h
  | ok b s' =>
    rw [e] at h
    exact fun w' le r' => hk b w' s' le r' h
theorem e_sl {e : Expr} {lo hi : Option Expr} {c : CE} {cl ch : S → R (Option Int)} {p2 pos : Pos} (he : Ex X ec W e c) (hl : PO X lo (rdO X.K ec W cl)) (hh : PO X hi (rdO X.K ec W ch)) : Ex X ec W (.Subscript e (.Slice lo hi none p2) pos) (cSl c cl ch) :=
  (pe_slice slr_V he hl hh).imp fun σ H Q h => by
    obtain ⟨w, s, rfl, hr, h⟩ := h
    refine run_cv hr h fun x w1 s1 a le1 r1 ha hn h1 => ?_
    refine run_o r1 (Res.mono h1 (fun _ _ q => q) fun _ _ q => okE_le le1 q) fun l w2 s2 le2 r2 h2 => ?_
    refine run_o r2 (Res.mono h2 (fun _ _ q => q) fun _ _ q => okE_le le2 q) fun u w3 s3 le3 r3 h3 => ?_
    obtain ⟨o, e1, h4⟩ := h3.opt
    obtain ⟨rv, e2, h5⟩ := h4.opt
    exact s_sl r3.mem.ext (od_of r3 (ha.le hn (le2.trans le3)) e1) e2 (post_of r3 fun z w' le r' o f => h5 z w' (((le1.trans le2).trans le3).trans le) r' o (f.back ((le1.trans le2).trans le3) le o))
/-! ### a < b < c -/
def cChain (f g : Od → Od → Option Rv) (a b c : CE) : CE := fun s => (cv a s).bind fun x s1 => (cv b s1).bind fun y s2 => opt (x.od s2.m) fun o => opt (y.od s2.m) fun o' => opt (f o o') fun rv => match rv with
  | .d (.bool true) => (cv c s2).bind fun z s3 => opt (y.od s3.m) fun p => opt (z.od s3.m) fun p' => opt (g p p') fun rv' => .ok rv' s3
  | .d (.bool false) => .ok (.d (.bool false)) s2
  | _ => .bad
theorem chain_rd {ca cb cc : CE} {r r' : R2} {f g : Od → Od → Option Rv} {σ : L2.St} {H : Hp} {Q : VK} (hs : Op2S X.K r f) (hs' : Op2S X.K r' g) (h : rd X.K ec W (cChain f g ca cb cc) σ H Q) : tChain r r' (rd X.K ec W ca) (rd X.K ec W cb) (rd X.K ec W cc) σ H Q := by
  obtain ⟨w, s, rfl, hr, h⟩ := h
  refine run_cv hr h fun x w1 s1 a le1 hr1 ha hn h1 => ?_
  refine run_cv hr1 (Res.mono h1 (fun _ _ q => q) fun _ _ q => okE_le le1 q) fun y w2 s2 b le2 hr2 hb hn2 h2 => ?_
  obtain ⟨o, e1, h2⟩ := h2.opt
  obtain ⟨o', e2, h2⟩ := h2.opt
  obtain ⟨rv, e3, h3⟩ := h2.opt
  refine hs w2 x y o o' rv _ hr2.mem.ext (od_of hr2 (ha.le hn le2) e1) (od_of hr2 hb e2) e3 fun z w3 gr rn => ?_
  have hr3 := hr2.grow gr
  have le3 := gr.le
  split at h3
  · have rn : Rp X.K w3.G z (.bool true) := rn
    cases rn
    refine ⟨true, rfl, iteT ?_⟩
    refine run_cv hr3 (Res.mono h3 (fun _ _ q => q) fun _ _ q => okE_le (le2.trans le3) q) fun z w4 s4 d le4 hr4 hd hn4 h4 => ?_
    obtain ⟨p, e4, h4⟩ := h4.opt
    obtain ⟨p', e5, h4⟩ := h4.opt
    obtain ⟨rv', e6, h5⟩ := h4.opt
    exact hs' w4 y z p p' rv' Q hr4.mem.ext (od_of hr4 (hb.le hn2 (le3.trans le4)) e4) (od_of hr4 hd e5) e6 (post_of hr4 fun z w' le r' o f => h5 z w' ((((le1.trans le2).trans le3).trans le4).trans le) r' o (f.back (((le1.trans le2).trans le3).trans le4) le o))
  · have rn : Rp X.K w3.G z (.bool false) := rn
    cases rn
    exact ⟨false, rfl, iteF (h3 (.bl false) w3 ((le1.trans le2).trans le3) hr3 (.bl false) .d)⟩
  · exact h3.elim
theorem e_chain {op op' : CmpOp} {a b c : Expr} {ca cb cc : CE} {r r' : R2} {f g : Od → Od → Option Rv} {pos : Pos} (ho : OpR X (compareOp op) r) (ho' : OpR X (compareOp op') r') (hs : Op2S X.K r f) (hs' : Op2S X.K r' g) (ha : Ex X ec W a ca) (hb : Ex X ec W b cb) (hc : Ex X ec W c cc)
    (hm : lastMarks [op, op'] [b, c] = false := by with_unfolding_all rfl) : Ex X ec W (.Compare a [op, op'] [b, c] pos) (cChain f g ca cb cc) := (pe_chain ho ho' ha hb hc hm).imp fun σ H Q h => chain_rd hs hs' h
end
end Vm
namespace Vm
open PySem L2 PySem.Spec PyProof.Rows
/-! ### defs of the text and their promises -/
structure DefF (K : Fg) (mg : Str → Option Value) (x : Str) (st : Stmt) (ps : List Str) : Prop where
  ex : ∃ f fd, Fun K x x st f fd ∧ mg x = some (.ref f) ∧ ∀ us : List Value, us.length = ps.length → bindArgs fd ⟨us, []⟩ = pure (ps.zip us)
theorem defF_mk {K : Fg} {mg : Str → Option Value} {x : Str} {st : Stmt} {ps : List Str} {f : Addr} {oc : Value} {od an : Option Addr} {osl : Array (Option Value)} {kV doc pm cdv ct : Value} (hm : mg x = some (.ref f))
    (l : K.lookup f = some ⟨oc, od, .func (PySem.W.fnOf x x (defArgs st) (defBody st) (defScope st) .none kV doc pm an cdv ct), osl⟩) (c : PySem.W.codeIn K cdv x = true) (k : PySem.W.keepIn K (.ref f) = true)
    (h : ∀ (kV doc pm : Value) (an : Option Addr) (cdv ct : Value) (us : List Value), us.length = ps.length → bindArgs (PySem.W.fnOf x x (defArgs st) (defBody st) (defScope st) .none kV doc pm an cdv ct) ⟨us, []⟩ = pure (ps.zip us)) : DefF K mg x st ps :=
  ⟨f, _, fun_mk l c k, hm, h _ _ _ _ _ _⟩
def Cal (P : Program) (wo : World) (K : Fg) (mg : Str → Option Value) (base : Heap) (ec : EC) (x : Str) (ps : List Str) (f : Fn) (k : Nat) : Prop :=
  ∃ fa fd oc od osl, K.lookup fa = some ⟨oc, od, .func fd, osl⟩ ∧ FnG P wo K mg base k fa fd ps (spF K ec ps.length f) ∧ mg x = some (.ref fa) ∧ PySem.W.keepIn K (.ref fa) = true ∧ Binds K fd ps []
section
variable {P : Program} {wo : World} {K : Fg} {mg : Str → Option Value} {base : Heap} {ec : EC} {x : Str} {st : Stmt} {ps : List Str} {k : Nat} {f : Fn}
theorem DefF.cal (D : DefF K mg x st ps) (h : ∀ {fa : Addr} {fd : FuncData}, Fun K x x st fa fd → FnG P wo K mg base k fa fd ps (spF K ec ps.length f)) : Cal P wo K mg base ec x ps f k := by
  obtain ⟨fa, fd, F, hm, hb⟩ := D.ex
  obtain ⟨oc, od, kV, doc, pm, an, cdv, ct, osl, e, lk, _⟩ := F.ex
  exact ⟨fa, fd, oc, od, osl, lk, h F, hm, F.kp, .all hb⟩
end
section
variable {X : Cx} {ec : EC} {W : WX}
theorem e_callC {k : Nat} {ps : List Str} {f : Fn} {x : Str} {p pos : Pos} {e : Expr} {es : List Expr} {cl : CL} (C : Cal X.prog X.w X.K X.mg X.base ec x ps f k) (hr : Rg k X.A)
    (tk : Takes X W) (ha : PA X (e :: es) (rdL X.K ec W cl)) (hl : LLen ps.length cl) (hg : Gl X x := by rfl) (hdb : (x == ("__debug__" : Str)) = false := by decide) (he : starEach (e :: es) X.env = (false, eval e X.env) :: starEach es X.env := by rfl)
    (hpl : (backTo pos (starEach es X.env)).any (·.1) = false := by rfl) : Ex X ec W (.Call (.Name x p) (e :: es) [] pos) (cCall f cl) := by
  obtain ⟨fa, fd, oc, od, osl, lk, F, hm, hk, hb⟩ := C
  exact e_call F hr hm hk hb tk ha hl hg hdb he hpl
/-- a call that is handed data alone: it runs by itself, our cells held back -/
def Sl.isD : Sl → Bool
  | .d _ => true
  | _ => false
def RF.pure (s : S) : RF → R Rv
  | .ok (.d x) _ => .ok (.d x) s
  | .ok (.new c) _ => .ok (.new c) s
  | .ex e _ => .ex e s
  | _ => .bad
def cCallP (f : Fn) (cl : CL) : CE := fun s => (cl s).bind fun as s1 => if as.all Sl.isD = true then (f as []).pure s1 else .bad
theorem args_data {K : Fg} {w w' : Wd} (g : w.G = w'.G) {vs : List V} {as : List Sl} (h : ArgsOk ec K w vs as) : as.all Sl.isD = true → ArgsOk ec K w' vs as := by
  induction h with
  | nil => exact fun _ => .nil
  | cons r t ih =>
    intro hd
    rw [List.all_cons, Bool.and_eq_true] at hd
    refine .cons ?_ (ih hd.2)
    rename_i v sl vs as
    cases sl with
    | u => trivial
    | d x =>
      obtain ⟨u, e, q⟩ := r
      exact ⟨u, e, g ▸ q⟩
    | c n => exact absurd hd.1 (by simp [Sl.isD])
    | x n => exact absurd hd.1 (by simp [Sl.isD])
    | f => exact absurd hd.1 (by simp [Sl.isD])
    | f2 => exact absurd hd.1 (by simp [Sl.isD])
    | t _ _ => exact absurd hd.1 (by simp [Sl.isD])
theorem nv_back {w1 w' : Wd} {m : List Cell} {G : Hp} (hk : ∀ a o, w1.H a = some o → ∃ o', w'.H a = some o' ∧ (NoTb o → o' = o)) (h : NV ec w1 m) (hf : ∀ p, w1.F p → p ∈ ec.T.map (·.1) ∨ ∃ o, w'.H p = some o ∧ NoTb o ∧ NoTup o) : NV ec ⟨G, w1.r, w1.F, w'.H⟩ m := by
  refine ⟨⟨fun t q n j ds e1 e2 => ?_, fun t q x e1 e2 => ?_⟩, hf⟩
  · obtain ⟨h1, h2⟩ := h.1.1 t q n j ds e1 e2
    refine ⟨h1, fun p' ks e3 e4 => ?_⟩
    obtain ⟨ws, k, e5, e6⟩ := h2 p' ks e3 e4
    obtain ⟨o', e7, z⟩ := hk p' _ e5
    exact ⟨ws, k, by rw [z noTb_t] at e7; exact e7, e6⟩
  · refine (h.1.2 t q x e1 e2).mono (fun _ _ _ z => z) fun _ hn z => ?_
    obtain ⟨o', e7, y⟩ := hk q _ z
    rw [y hn] at e7
    exact e7
theorem mem_out {K : Fg} {w1 w' : Wd} {σ : L2.St} {s : S} {m' : List Cell} (r1 : Rel ec K w1 σ s) (le : Le ⟨w1.G, [], fun p => w1.F p ∨ (p ∈ w1.r ∧ w1.G p = none), w1.H⟩ w') (mm : Mem ec K w' m') : Rel ec K ⟨w'.G, w1.r, w1.F, w'.H⟩ σ s ∧ Le w1 ⟨w'.G, w1.r, w1.F, w'.H⟩ := by
  have hk : ∀ a o, w1.H a = some o → ∃ o', w'.H a = some o' ∧ (NoTb o → o' = o) := fun a o e => le.k a o e (by simp)
  have le' : Le w1 ⟨w'.G, w1.r, w1.F, w'.H⟩ := ⟨le.g, fun a o e _ => hk a o e, List.prefix_refl _, fun _ h => .inl h, rfl, le.z⟩
  refine ⟨⟨⟨mm.ext, r1.mem.len, r1.mem.nd, fun n p c h1 h2 => ?_, fun p hp => ?_, r1.mem.tab.back mm.tab, r1.mem.inv.trans (le'.ch _), mm.gt, nv_back hk r1.mem.nv fun p hp => mm.nv.2 p (by rw [le.s]; exact .inl hp)⟩, r1.len, fun i sl e => slOk_mono le' (r1.slot i sl e)⟩, le'⟩
  · have c0 := r1.mem.cell n p c h1 h2
    refine cOk_mono le.g (fun hc => ?_) (fun o hc e => ?_) c0
    rotate_left
    · obtain ⟨o', e1, q⟩ := hk p o e
      have hn : NoTb o := by
        cases c with
        | l ds =>
          obtain ⟨_, vs, hv, _⟩ := c0
          rw [hv] at e
          cases e
          exact noTb_l
        | k kvs =>
          obtain ⟨_, vs, hv, _⟩ := c0
          rw [hv] at e
          cases e
          exact noTb_k
        | t kvs =>
          obtain ⟨_, vs, hv, _⟩ := c0
          rw [hv] at e
          cases e
          exact noTb_t
        | r kvs =>
          obtain ⟨_, vs, hv, _⟩ := c0
          rw [hv] at e
          cases e
          exact noTb_t
        | i n' j' kvs =>
          obtain ⟨_, vs, hv, _⟩ := c0
          rw [hv] at e
          cases e
          exact noTb_l
        | g x =>
          obtain ⟨_, o1, hv, q1⟩ := c0
          rw [hv] at e
          cases e
          exact q1.ntb
        | gone => exact absurd rfl hc
      rw [e1, q hn]
    have hg : w1.G p = none := by
      cases c with
      | l ds => exact c0.1
      | k kvs => exact c0.1
      | t kvs => exact c0.1
      | r ks => exact c0.1
      | i n' j' ds => exact c0.1
      | g x => exact c0.1
      | gone => exact absurd rfl hc
    exact (mm.fo p (by rw [le.s]; exact .inr ⟨List.mem_of_getElem? h1, hg⟩)).1
  · obtain ⟨a, b, c⟩ := mm.fo p (by rw [le.s]; exact .inl hp)
    exact ⟨a, (r1.mem.fo p hp).2.1, c⟩
/-- a start: what is there stays -/
structure Bas (b : Wd) : Prop where
  r : b.r = []
  g : ∀ a o, b.H a = some o → b.G a = some o
theorem bas_bot : Bas bot := ⟨rfl, fun _ _ e => e⟩
theorem Bas.le {b w : Wd} (h : Bas b) (g : Same b.G w.G) (e : Same w.G w.H) (hr : w.r = []) : Le b (w.f b.F) :=
  ⟨g, fun a o x _ => ⟨o, e _ _ (g _ _ (h.g a o x)), fun _ => rfl⟩, by rw [h.r]; exact List.nil_prefix, (fun p hp => absurd (show p ∈ w.r from hp) (by rw [hr]; exact List.not_mem_nil)), rfl, fun a od u x => e _ _ (g _ _ (h.g a _ x))⟩
theorem e_callP {k : Nat} {ps : List Str} {f : Fn} {x : Str} {p pos : Pos} {e : Expr} {es : List Expr} {cl : CL} (C : Cal X.prog X.w X.K X.mg X.base ec x ps f k) (hr : Rg k X.A)
    (tk : Takes X W) (ha : PA X (e :: es) (rdL X.K ec W cl)) (hl : LLen ps.length cl) (hg : Gl X x := by rfl) (hdb : (x == ("__debug__" : Str)) = false := by decide) (he : starEach (e :: es) X.env = (false, eval e X.env) :: starEach es X.env := by rfl)
    (hpl : (backTo pos (starEach es X.env)).any (·.1) = false := by rfl) (hw : Bas ec.w := by assumption) : Ex X ec W (.Call (.Name x p) (e :: es) [] pos) (cCallP f cl) := by
  obtain ⟨fa, fd, oc, od, osl, lk, F, hm, hk, hb⟩ := C
  exact (pe_callG F hr hg hm hk hb (fun σ => passAt tk σ) ha hdb he hpl).imp fun σ H Q h => by
    obtain ⟨w, s, rfl, hr, h⟩ := h
    refine ⟨w, s, rfl, hr, ?_⟩
    unfold cCallP at h
    cases e1 : cl s with
    | bad => rw [e1] at h; exact h
    | ex n s' => rw [e1] at h; exact h
    | ok as s1 =>
      rw [e1] at h
      intro vs w1 le1 r1 ao
      have h1 : Res (okV ec X.K w σ Q) (okE X.K ec W σ w) (if as.all Sl.isD = true then (f as []).pure s1 else .bad) := h
      by_cases hd : as.all Sl.isD = true
      · rw [if_pos hd] at h1
        refine ⟨by rw [paired_len ao]; exact hl _ _ _ e1, ⟨w1.G, [], fun p => w1.F p ∨ (p ∈ w1.r ∧ w1.G p = none), w1.H⟩, [], as, rfl, ⟨r1.mem.ext, rfl, List.nodup_nil, fun n p c h _ => by simp at h, fun p hp => ?_, r1.mem.tab.f fun _ h => .inl h, hw.le r1.mem.inv.g r1.mem.ext rfl, r1.mem.gt, ⟨⟨fun t q n j ds e1 => by simp at e1, fun t p x e1 => by simp at e1⟩, fun p hp => hp.elim (fun hp => r1.mem.nv.2 p hp) fun hp => .inr (by obtain ⟨n, e⟩ := List.getElem?_of_mem hp.1; exact r1.liveT e hp.2)⟩⟩, args_data (w := w1) (w' := ⟨w1.G, [], fun p => w1.F p ∨ (p ∈ w1.r ∧ w1.G p = none), w1.H⟩) rfl ao hd, ?_⟩
        · rcases hp with hp | hp
          · obtain ⟨a, b, c⟩ := r1.mem.fo p hp
            exact ⟨a, by simp, c⟩
          · exact ⟨hp.2, by simp, r1.live hp.1⟩
        · cases e2 : f as [] with
          | bad => rw [e2] at h1; exact h1
          | ex n m' =>
            rw [e2] at h1
            intro w2 le2 m2
            obtain ⟨r3, le3⟩ := mem_out r1 le2 m2
            exact h1 ⟨w2.G, w1.r, w1.F, w2.H⟩ (le1.trans le3) r3
          | ok a m' =>
            rw [e2] at h1
            intro x w2 le2 m2 o fr
            obtain ⟨r3, le3⟩ := mem_out r1 le2 m2
            cases a with
            | ref n => exact h1.elim
            | t _ _ => exact h1.elim
            | d y => exact h1 x ⟨w2.G, w1.r, w1.F, w2.H⟩ (le1.trans le3) r3 o .d
            | new c =>
              obtain ⟨p, ex, ⟨hp1, hp2⟩, hc⟩ := o
              have hf : w1.H p = none := fr c rfl p ex
              have hnr : p ∉ w1.r := fun hm => by
                obtain ⟨o, ho⟩ := r1.live hm
                rw [hf] at ho
                cases ho
              have hnF : ¬ w1.F p := fun hF => hp2 (by rw [le2.s]; exact .inl hF)
              have o3 : RvOk X.K ⟨w2.G, w1.r, w1.F, w2.H⟩ x (.new c) := ⟨p, ex, ⟨hnr, hnF⟩, hc⟩
              have f3 : FrR w1 x (.new c) := fun c' ec p' ep => fr c' ec p' ep
              exact h1 x ⟨w2.G, w1.r, w1.F, w2.H⟩ (le1.trans le3) r3 o3 (FrR.back le1 le3 o3 f3)
      · rw [if_neg hd] at h1
        exact h1.elim
theorem e_globI {x : Str} {i : Int} {pos : Pos} (h : ∃ t, X.mg x = some (.int i t)) (hg : Gl X x := by rfl) (hb : (x == ("__debug__" : Str)) = false := by decide) : Ex X ec W (.Name x pos) (cC (.int i)) := by
  obtain ⟨t, h⟩ := h
  exact e_glob (v := .int i) h ⟨t, rfl⟩ (fun _ => .int i) hg hb
end
/-! ### the law -/
def spLaw (K : Fg) (f : Fn) (T : List (Addr × Str)) : Sp := fun vs H Q E => (∀ q ∈ T, H q.1 = some (.tbl #[]) ∧ K.lookup q.1 = none) ∧ ∃ (a : Addr) (ns : List Int), vs = [.ref a] ∧ SqL K H a (ns.map V.int) ∧ f [.d (.list (ns.map PyData.int))] [] = .ok (.d (.bool true)) [] ∧ ∀ H', Q (.bl true) H'
theorem cx_none {P : Program} {w : World} {H : Hp} {s : Shared} {e : Value} {s' : Shared} (h : L2.CX P w [] H s (fun _ _ _ => False) e s') : False := by
  obtain ⟨_, _, _, _, _, _, _, _, _, _, _, _, z⟩ := h
  exact z
/-- the ground at the start: all but the tables -/
def gndT (H : Hp) : Hp := fun b => match H b with
  | some (.tbl _) => none
  | x => x
theorem gndT_no {H : Hp} {b : Addr} {o : HO} (h : H b = some o) (n : NoTb o) : gndT H b = some o := by
  unfold gndT
  rw [h]
  split
  · rename_i ps e
    exact absurd (Option.some.inj e) (n ps)
  · rfl
theorem gndT_t {H : Hp} {b : Addr} {ps : Array Value} (h : H b = some (.tbl ps)) : gndT H b = none := by
  unfold gndT
  rw [h]
theorem gndT_of {H : Hp} {b : Addr} {o : HO} (h : gndT H b = some o) : H b = some o ∧ NoTb o := by
  unfold gndT at h
  split at h
  · cases h
  · rename_i x e
    exact ⟨h, fun ps z => e ps (by rw [h, z])⟩
theorem spLaw_spF {K : Fg} {ec : EC} (hw : ec.w = bot) {f : Fn} {vs : List V} {H : Hp} {Q : VK} {E : XK} (h : spLaw K f ec.T vs H Q E) : spF K ec 1 f vs H Q E := by
  obtain ⟨hT, a, ns, rfl, hS, hf, q⟩ := h
  have hS' : SqL K (gndT H) a (ns.map V.int) := by
    rcases hS with (h | ⟨o, h⟩) | h
    · exact .inl (.inl (gndT_no h noTb_l))
    · exact .inl (.inr ⟨o, gndT_no h fun _ z => by cases z⟩)
    · exact .inr h
  refine ⟨rfl, ⟨gndT H, [], fun b => b ∈ ec.T.map (·.1), H⟩, [], [.d (.list (ns.map PyData.int))], rfl, ⟨fun b u e => (gndT_of e).1, rfl, List.nodup_nil, fun n p c h _ => by simp at h, fun p h => ?_, fun q hq => ?_, ?_, fun b o e => (gndT_of e).2, ⟨⟨fun t q n j ds e1 => by simp at e1, fun t p x e1 => by simp at e1⟩, fun p hp => .inl hp⟩⟩, .cons ⟨.ref a, rfl, .lst hS' (rpAll_ints ns)⟩ .nil, ?_⟩
  · obtain ⟨q, hq, e⟩ := List.mem_map.mp h
    exact ⟨by rw [← e]; exact gndT_t (hT q hq).1, by simp, _, by rw [← e]; exact (hT q hq).1⟩
  · exact ⟨List.mem_map.mpr ⟨q, hq, rfl⟩, LamX.TabS.nil (hT q hq).1⟩
  · rw [hw]
    exact Le.bot _
  rw [hf]
  intro x w' _ _ hx _
  have hx : Rp K w'.G x (.bool true) := hx
  cases hx
  exact q _
/-! ### exceptions by name -/
def ecOf (mg : Str → Option Value) (T : List (Addr × Str) := []) (L : List String := []) : EC := ⟨fun n => match mg (Str.ofString n) with
  | some (.ref a) => a
  | _ => 0, T, L, bot, 0, 0⟩
theorem exc_g {mg : Str → Option Value} {T : List (Addr × Str)} {L : List String} {n : String} {a : Addr} (h : mg (Str.ofString n) = some (.ref a)) : mg (Str.ofString n) = some (.ref ((ecOf mg T L).f n)) := by
  show mg (Str.ofString n) = some (.ref (match mg (Str.ofString n) with
    | some (.ref a) => a
    | _ => 0))
  rw [h]
theorem exc_e {mg : Str → Option Value} {T : List (Addr × Str)} {L : List String} {n : String} {a : Addr} {P : Addr → Prop} (h : mg (Str.ofString n) = some (.ref a)) (q : P a) : P ((ecOf mg T L).f n) := by
  show P (match mg (Str.ofString n) with
    | some (.ref a) => a
    | _ => 0)
  rw [h]
  exact q
section
variable {X : Cx} {ec : EC} {W : WX}
/-! ### times: ints, a list or a tuple so many times -/
theorem op_repV : OpR X (binaryOp .Mult) (rRepV X.K) := by
  intro pins s σ H x y v u Q I rx ry h
  obtain ⟨l, k, xs, rfl, rfl, hH, h1, h2, hz, q⟩ := h
  cases rx
  obtain ⟨t, rfl⟩ := ry
  obtain ⟨its, r, p, z⟩ := I.list hH
  obtain ⟨⟨cls, dd, data, sl⟩, n, e, hc, hd, hs⟩ := p
  dsimp only at hc hd hs
  subst hc
  subst hd
  subst hs
  have hl : xs.length = its.length := r.length
  have hlen : its.toArray.size * k.toNat ≤ sizeLine := by rw [List.size_toArray, ← hl]; exact hz
  have hcap : ¬ its.toArray.size * k.toNat > (2 ^ 63 - 1) / 8 := by
    have : (sizeLine : Nat) ≤ (2 ^ 63 - 1) / 8 := by decide
    omega
  have hfit : ¬ (!Builtin.List.listFitsIndex k) = true := by
    rw [fitsIndex_both h1 h2]
    exact Bool.false_ne_true
  have hlong : ¬ Builtin.List.listTooLong (its.toArray.size * k.toNat) = true := by
    rw [notLongL hlen]
    exact Bool.false_ne_true
  have hnew : List.foldl (fun x1 x2 => x1 ++ x2) #[] (List.replicate (if its.toArray.isEmpty = true then 0 else k.toNat) its.toArray) = (List.replicate k.toNat its).flatten.toArray := by
    have f0 : ∀ m : Nat, List.foldl (fun x1 x2 => x1 ++ x2) #[] (List.replicate m its.toArray) = (List.replicate m its).flatten.toArray := fun m => by
      have := foldl_rep its m []
      rw [List.nil_append] at this
      exact this
    rw [f0]
    cases its with
    | nil => simp
    | cons a r' => rw [if_neg (by simp)]
  refine wpAny_binaryOp_repeat_ref (T := "list") (U := "int") (by decide) ⟨_, e, rfl⟩ (fun s' => typeIs_int s' k t) noFill_list_mul F.fills_int_mul F.slot_int_rmul repeat_list F.slot_int_index.lookup
    (call_meets F.slot_int_rmul (typeIs_int s k t) F.entry_int_rmul (F.args_int_rmul_2 _ _) (lm_int_rmul_list_any k t l its.toArray n _ _)
      ⟨e, rfl, ⟨_, e, rfl⟩, call_meets F.slot_list_mul ⟨_, e, rfl⟩ F.entry_list_mul (F.args_list_mul_2 _ _) (lm_list_mul_any l its.toArray n _ _ k t hfit hcap hlong) ⟨e, ?_⟩⟩)
  rw [hnew]
  exact ⟨.ref _, _, I.lnew (t' := s.toks) (r.rep k.toNat) (by rw [PyProof.Rows.lm_len_rep_flat, Nat.mul_comm]; rw [List.size_toArray] at hlen; omega), rfl, q _ I.fresh⟩
theorem tuple_mul1 (l : Addr) (items : Array Value) (n : Nat) (dd : Option Addr) (sl : Array (Option Value)) (x : Int) (u : Tok) (c0 : (decide (x < -(2 ^ 63)) || decide (x ≥ 2 ^ 63)) = false) (c1 : (items.isEmpty || x == 1) = true) :
    Meets (Builtin.«tuple.__mul__» ⟨[.ref l, .int x u], []⟩) (fun _ R s => s.heap.get? l = some { cls := .type "tuple", dict := dd, data := .seq items n, slots := sl } ∧ R (.ok (.ret (Value.ref l))) s) :=
  .of_wp fun prog w A R s h => by
    obtain ⟨hp, g, d, tk, os⟩ := s
    obtain ⟨hl, h⟩ := h
    have f1 := AutoSeq1.idx_int
    wp_walk using wpAny_loadPart' hl
    repeat (first
      | (refine wpAny_ite_false (decide_eq_false (by rw [c0]; exact Bool.false_ne_true)) ?_; wp_walk using wpAny_loadPart' hl)
      | (refine wpAny_ite_true (decide_eq_true c1) ?_; wp_walk using wpAny_loadPart' hl))
    exact ⟨_, rfl, h⟩
def rRepT1 (K : Fg) : R2 := fun x y H Q => ∃ l xs, x = .ref l ∧ y = .int 1 ∧ SqT K H l xs ∧ Q (.ref l) H
theorem op_repT1 : OpR X (binaryOp .Mult) (rRepT1 X.K) := by
  intro pins s σ H x y v u Q I rx ry h
  obtain ⟨l, xs, rfl, rfl, hT, q⟩ := h
  cases rx
  obtain ⟨t, rfl⟩ := ry
  obtain ⟨its, r, ⟨⟨cls, dd, data, sl⟩, ho, hc, n, hd⟩, hs⟩ := I.tuple hT
  simp only at hc hd
  subst hc hd
  refine wpAny_binaryOp_repeat_ref (T := "tuple") (U := "int") (by decide) ⟨_, ho, rfl⟩ (fun s' => typeIs_int s' 1 t) noFill_tuple_mul F.fills_int_mul F.slot_int_rmul repeat_tuple F.slot_int_index.lookup
    (call_meets F.slot_int_rmul (typeIs_int s 1 t) F.entry_int_rmul (F.args_int_rmul_2 _ _) (int_rmul_tuple 1 t l its.toArray n dd sl)
      ⟨ho, rfl, ⟨_, ho, rfl⟩, call_meets F.slot_tuple_mul ⟨_, ho, rfl⟩ F.entry_tuple_mul (F.args_tuple_mul_2 _ _) (tuple_mul1 l its.toArray n dd sl 1 t (by decide) (by simp)) ⟨ho, ?_⟩⟩)
  exact ⟨.ref l, _, I.kept (t' := s.toks) (fun _ _ e => e), rfl, q⟩
theorem tuple_mul0 (l : Addr) (items : Array Value) (n : Nat) (dd : Option Addr) (sl : Array (Option Value)) (x : Int) (u : Tok) (c0 : (decide (x < -(2 ^ 63)) || decide (x ≥ 2 ^ 63)) = false) (c1 : (items.isEmpty || x == 1) = false) (c2 : (decide (x ≤ 0) || items.isEmpty) = true) :
    Meets (Builtin.«tuple.__mul__» ⟨[.ref l, .int x u], []⟩) (fun _ R s => s.heap.get? l = some { cls := .type "tuple", dict := dd, data := .seq items n, slots := sl } ∧
      R (.ok (.ret (Value.ref s.heap.objs.size))) { s with heap := s.heap.push { cls := Value.type "tuple", data := Data.seq #[] }, toks := s.toks }) :=
  .of_wp fun prog w A R s h => by
    obtain ⟨hp, g, d, tk, os⟩ := s
    obtain ⟨hl, h⟩ := h
    have f1 := AutoSeq1.idx_int
    wp_walk using wpAny_loadPart' hl
    repeat (first
      | (refine wpAny_ite_false (decide_eq_false (by rw [c0]; exact Bool.false_ne_true)) ?_; wp_walk using wpAny_loadPart' hl)
      | (refine wpAny_ite_false (decide_eq_false (by rw [c1]; exact Bool.false_ne_true)) ?_; wp_walk using wpAny_loadPart' hl)
      | (refine wpAny_ite_true (decide_eq_true c2) ?_; wp_walk using wpAny_loadPart' hl))
    exact ⟨_, rfl, h⟩
def rRepT0 (K : Fg) : R2 := fun x y H Q => ∃ l k xs, x = .ref l ∧ y = .int k ∧ SqT K H l xs ∧ xs ≠ [] ∧ k ≤ 0 ∧ -1000 ≤ k ∧ ∀ p, H p = none → Q (.ref p) (upd H p (.tup []))
theorem op_repT0 : OpR X (binaryOp .Mult) (rRepT0 X.K) := by
  intro pins s σ H x y v u Q I rx ry h
  obtain ⟨l, k, xs, rfl, rfl, hT, hne, h1, h2, q⟩ := h
  cases rx
  obtain ⟨t, rfl⟩ := ry
  obtain ⟨its, r, ⟨⟨cls, dd, data, sl⟩, ho, hc, n, hd⟩, hs⟩ := I.tuple hT
  simp only at hc hd
  subst hc hd
  have hle : its.length = xs.length := r.length.symm
  have hn : its ≠ [] := fun e => hne (by
    rw [e] at hle
    exact List.eq_nil_of_length_eq_zero hle.symm)
  have hi : its.toArray.isEmpty = false := by
    cases its with
    | nil => exact absurd rfl hn
    | cons a b => rfl
  have c0 : (decide (k < -(2 ^ 63)) || decide (k ≥ 2 ^ 63)) = false := by
    rw [decide_eq_false (by omega), decide_eq_false (by omega)] <;> rfl
  have c1 : (its.toArray.isEmpty || k == 1) = false := by
    rw [hi, Bool.false_or]
    exact beq_eq_false_iff_ne.mpr (by omega)
  have c2 : (decide (k ≤ 0) || its.toArray.isEmpty) = true := by
    rw [decide_eq_true h1, Bool.true_or]
  refine wpAny_binaryOp_repeat_ref (T := "tuple") (U := "int") (by decide) ⟨_, ho, rfl⟩ (fun s' => typeIs_int s' k t) noFill_tuple_mul F.fills_int_mul F.slot_int_rmul repeat_tuple F.slot_int_index.lookup
    (call_meets F.slot_int_rmul (typeIs_int s k t) F.entry_int_rmul (F.args_int_rmul_2 _ _) (int_rmul_tuple k t l its.toArray n dd sl)
      ⟨ho, rfl, ⟨_, ho, rfl⟩, call_meets F.slot_tuple_mul ⟨_, ho, rfl⟩ F.entry_tuple_mul (F.args_tuple_mul_2 _ _) (tuple_mul0 l its.toArray n dd sl k t c0 c1 c2) ⟨ho, ?_⟩⟩)
  refine ⟨.ref s.heap.objs.size, _, I.laid (t' := s.toks) (o := .tup []) (fun b ob q => Heap.get?_push_of_some _ q) (Nat.le_refl _) ?_, rfl, q _ (I.hok.fresh (Nat.le_refl _))⟩
  exact ⟨Nat.zero_le _, _, .nil, IsTup.new _ _⟩
def rMulV (K : Fg) : R2 := fun x y H Q => (rI (fun i j => mulOk i j = true) (fun i j => .int (i * j))) x y H Q ∨ rRepV K x y H Q ∨ rRepT K x y H Q ∨ rRepT1 K x y H Q ∨ rRepT0 K x y H Q
theorem or_mul : OpR X (binaryOp .Mult) (rMulV X.K) := OpR.or op_mulV (OpR.or op_repV (OpR.or op_repT (OpR.or op_repT1 op_repT0)))
def opMulV : Od → Od → Option Rv
  | .d (.int i), .d (.int j) => if mulOk i j = true then some (.d (.int (i * j))) else none
  | .d (.list ds), .d (.int k) => if decide (k < 2 ^ 63) && decide (-(2 ^ 63) ≤ k) && decide (ds.length * k.toNat ≤ 16000000) then some (.new (.l (List.replicate k.toNat ds).flatten)) else none
  | .d (.tuple ds), .d (.int k) => if k = 1 then some (.d (.tuple ds)) else if !ds.isEmpty && decide (2 ≤ k) && decide (k ≤ 1000) && decide (ds.length ≤ 1000) then some (.d (.tuple (List.replicate k.toNat ds).flatten)) else if !ds.isEmpty && decide (k ≤ 0) && decide (-1000 ≤ k) then some (.d (.tuple [])) else none
  | _, _ => none
theorem rp_rep {K : Fg} {H : Hp} {vs : List V} {ds : List D} (r : RpAll K H vs ds) : ∀ n, RpAll K H (List.replicate n vs).flatten (List.replicate n ds).flatten
  | 0 => .nil
  | n + 1 => by
    rw [List.replicate_succ, List.flatten_cons, List.replicate_succ, List.flatten_cons]
    exact r.append (rp_rep r n)
theorem s_mulV {K : Fg} : Op2S K (rMulV K) opMulV := by
  intro w x y o o' rv Q hx h h' e q
  unfold opMulV at e
  split at e
  · split at e
    · rename_i hm
      cases e
      exact .inl ⟨_, _, h.int, h'.int, hm, post_int q⟩
    · cases e
  · split at e
    · rename_i ds k hc
      cases e
      simp only [Bool.and_eq_true, decide_eq_true_eq] at hc
      obtain ⟨p, vs, rfl, hl, r⟩ := h.list hx
      refine .inr (.inl ⟨p, k, vs, rfl, h'.int, hl, hc.1.2, hc.1.1, sz16 (by rw [r.length]; exact hc.2), fun a ha => post_lst q (rp_rep r _) ha hx⟩)
    · cases e
  · split at e
    · rename_i ds k hk
      subst hk
      cases e
      obtain ⟨p, vs, rfl, hg, r⟩ := h.tup
      exact .inr (.inr (.inr (.inl ⟨p, vs, rfl, h'.int, .inl (.inl (hx _ _ hg)), post_d q (.tup hg r)⟩)))
    · split at e
      · rename_i ds k hk hc
        cases e
        simp only [Bool.and_eq_true, decide_eq_true_eq, Bool.not_eq_true', List.isEmpty_eq_false_iff] at hc
        obtain ⟨p, vs, rfl, hg, r⟩ := h.tup
        refine .inr (.inr (.inl ⟨p, k, vs, rfl, h'.int, .inl (.inl (hx _ _ hg)), fun e => hc.1.1.1 ?_, hc.1.1.2, hc.1.2, by rw [r.length]; exact hc.2, fun a ha => post_tup q (rp_rep r _) ha hx⟩))
        subst e
        cases r
        rfl
      · split at e
        · rename_i ds k hk hc2 hc
          cases e
          simp only [Bool.and_eq_true, decide_eq_true_eq, Bool.not_eq_true', List.isEmpty_eq_false_iff] at hc
          obtain ⟨p, vs, rfl, hg, r⟩ := h.tup
          refine .inr (.inr (.inr (.inr ⟨p, k, vs, rfl, h'.int, .inl (.inl (hx _ _ hg)), fun e => hc.1.1 ?_, hc.1.2, hc.2, fun a ha => post_tup q .nil ha hx⟩)))
          subst e
          cases r
          rfl
        · cases e
  · cases e
/-! ### methods of a list -/
section
variable {o e : Expr} {es : List Expr} {apos cpos : Pos} {co : CE} {ca : CA}
theorem e_append (ho : Ex X ec W o co) (ha : PA X (e :: es) (rdA X.K ec W ca)) (hbase : attributeBase o "append" X.env (eval o X.env) = eval o X.env := by rfl)
    (hfew : ((backTo cpos (starEach (e :: es) X.env)).all (fun x => !x.1) && (backToKw cpos (keywordEach [] X.env)).all (fun x => x.1.isSome) && decide ((e :: es).length + ([] : List Keyword).length + (if ([] : List Keyword).isEmpty then 0 else 1) < 30)) = true := by rfl)
    (hline : (apos.endLine == cpos.line) = true := by rfl) (hs : starEach (e :: es) X.env = (false, eval e X.env) :: starEach es X.env := by rfl) (hplain : (backTo cpos (starEach es X.env)).any (·.1) = false := by rfl) :
    Ex X ec W (.Call (.Attribute o "append" apos) (e :: es) [] cpos) (cMut fApp co ca) :=
  e_mut m_append mt_append F.slot_list_append F.type_list_append ho ha fun h1 h2 => pe_bm F.plainAttrs_list F.slot_list_append F.type_list_append mt_append h1 h2 hbase hfew hline hs hplain
theorem e_pop0 (ho : Ex X ec W o co) (hbase : attributeBase o "pop" X.env (eval o X.env) = eval o X.env := by rfl) (hline : (apos.endLine == cpos.line) = true := by rfl) : Ex X ec W (.Call (.Attribute o "pop" apos) [] [] cpos) (cMut fPop co cNil) :=
  e_mut0 m_pop ho fun h1 => pe_bm0 F.plainAttrs_list F.slot_list_pop F.type_list_pop mt_pop h1 hbase hline
end
end
end Vm
namespace Vm
open PySem L2
/-! ### runs step by step, for simp -/
def frz : Rv → S → R Rv
  | .d x, s => .ok (.d x) s
  | .ref n, s => .ok (.ref n) s
  | .t b es, s => .ok (.t b es) s
  | .new (.l ds), s => .ok (.d (.list ds)) s
  | .new (.k kvs), s => .ok (.d (.dict (kvs.map fun p => (kD p.1, p.2)))) s
  | .new _, _ => .bad
@[simp] theorem frz_d {x : D} {s : S} : frz (.d x) s = .ok (.d x) s := Eq.trans rfl rfl
@[simp] theorem frz_t {b : Bool} {es : List El} {s : S} : frz (.t b es) s = .ok (.t b es) s := Eq.trans rfl rfl
@[simp] theorem frz_ref {n : Nat} {s : S} : frz (.ref n) s = .ok (.ref n) s := Eq.trans rfl rfl
@[simp] theorem frz_l {ds : List D} {s : S} : frz (.new (.l ds)) s = .ok (.d (.list ds)) s := Eq.trans rfl rfl
@[simp] theorem frz_k {kvs : List (L2.Key × D)} {s : S} : frz (.new (.k kvs)) s = .ok (.d (.dict (kvs.map fun p => (kD p.1, p.2)))) s := Eq.trans rfl rfl
section
variable {α β : Type}
@[simp] theorem bind_ok {a : α} {s : S} {k : α → S → R β} : (R.ok a s).bind k = k a s := Eq.trans rfl rfl
@[simp] theorem bind_ex {e : String} {s : S} {k : α → S → R β} : (R.ex e s).bind k = .ex e s := Eq.trans rfl rfl
@[simp] theorem out_ok {a : α} {s : S} {k : α → S → Out} : (R.ok a s).out k = k a s := Eq.trans rfl rfl
@[simp] theorem out_ex {e : String} {s : S} {k : α → S → Out} : (R.ex e s : R α).out k = .ex e s := Eq.trans rfl rfl
@[simp] theorem opt_some {a : α} {k : α → R β} : opt (some a) k = k a := Eq.trans rfl rfl
end
@[simp] theorem cv_s {c : CE} {s : S} : cv c s = (c s).bind frz := by
  unfold cv
  congr 1
  funext rv s1
  cases rv with
  | d x => rfl
  | t b es => rfl
  | ref n => rfl
  | new c => cases c <;> rfl
def slR : Option Sl → S → R Rv
  | some (.d x), s => .ok (.d x) s
  | some (.c n), s => .ok (.ref n) s
  | some (.t b es), s => .ok (.t b es) s
  | _, _ => .bad
@[simp] theorem slR_t {b : Bool} {es : List El} {s : S} : slR (some (.t b es)) s = .ok (.t b es) s := Eq.trans rfl rfl
@[simp] theorem slR_d {x : D} {s : S} : slR (some (.d x)) s = .ok (.d x) s := Eq.trans rfl rfl
@[simp] theorem slR_c {n : Nat} {s : S} : slR (some (.c n)) s = .ok (.ref n) s := Eq.trans rfl rfl
@[simp] theorem cVar_r {i : Nat} {s : S} : cVar i s = slR s.v[i]? s := by
  unfold cVar
  generalize s.v[i]? = o
  rcases o with _ | (_ | _ | _) <;> rfl
@[simp] theorem cC_s {d : D} {s : S} : cC d s = .ok (.d d) s := Eq.trans rfl rfl
def odC : Option Cell → Option Od
  | some (.l ds) => some (.d (.list ds))
  | some (.k kvs) => some (.c (.k kvs))
  | some (.t kvs) => some (.c (.t kvs))
  | some (.r ks) => some (.c (.r ks))
  | some (.g x) => some (.c (.g x))
  | _ => none
@[simp] theorem odC_l {ds : List D} : odC (some (.l ds)) = some (.d (.list ds)) := Eq.trans rfl rfl
@[simp] theorem odC_k {kvs : List (L2.Key × D)} : odC (some (.k kvs)) = some (.c (.k kvs)) := Eq.trans rfl rfl
@[simp] theorem odC_t {kvs : List (List L2.Key × D)} : odC (some (.t kvs)) = some (.c (.t kvs)) := Eq.trans rfl rfl
@[simp] theorem odC_r {ks : List (List L2.Key)} : odC (some (.r ks)) = some (.c (.r ks)) := Eq.trans rfl rfl
@[simp] theorem od_d {x : D} {m : List Cell} : (Rv.d x).od m = some (.d x) := Eq.trans rfl rfl
@[simp] theorem od_ref {n : Nat} {m : List Cell} : (Rv.ref n).od m = odC m[n]? := by
  unfold Rv.od
  dsimp only
  generalize m[n]? = o
  rcases o with _ | (_ | _ | _ | _ | _ | _) <;> rfl
/-! what comes behind has a name: simp stays out of it -/
def rvK : Option Rv → S → R Rv
  | some rv, s => .ok rv s
  | none, _ => .bad
@[simp] theorem rvK_s {rv : Rv} {s : S} : rvK (some rv) s = .ok rv s := Eq.trans rfl rfl
theorem opt_rv {o : Option Rv} {s : S} : (opt o fun rv => .ok rv s) = rvK o s := by cases o <;> rfl
def odK1 (f : Od → Option Rv) : Option Od → S → R Rv
  | some o, s => rvK (f o) s
  | none, _ => .bad
@[simp] theorem odK1_s {f : Od → Option Rv} {o : Od} {s : S} : odK1 f (some o) s = rvK (f o) s := Eq.trans rfl rfl
def kOp1 (f : Od → Option Rv) (x : Rv) (s1 : S) : R Rv := odK1 f (x.od s1.m) s1
@[simp] theorem kOp1_s {f : Od → Option Rv} {x : Rv} {s1 : S} : kOp1 f x s1 = odK1 f (x.od s1.m) s1 := Eq.trans rfl rfl
@[simp] theorem cOp1_s {f : Od → Option Rv} {a : CE} {s : S} : cOp1 f a s = (cv a s).bind (kOp1 f) := by
  unfold cOp1
  congr 1
  funext x s1
  rw [kOp1_s]
  cases x.od s1.m with
  | none => rfl
  | some o => exact opt_rv
def odK2 (f : Od → Od → Option Rv) : Option Od → Option Od → S → R Rv
  | some o, some o', s => rvK (f o o') s
  | _, _, _ => .bad
@[simp] theorem odK2_s {f : Od → Od → Option Rv} {o o' : Od} {s : S} : odK2 f (some o) (some o') s = rvK (f o o') s := Eq.trans rfl rfl
def kOp2b (f : Od → Od → Option Rv) (x y : Rv) (s2 : S) : R Rv := odK2 f (x.od s2.m) (y.od s2.m) s2
@[simp] theorem kOp2b_s {f : Od → Od → Option Rv} {x y : Rv} {s2 : S} : kOp2b f x y s2 = odK2 f (x.od s2.m) (y.od s2.m) s2 := Eq.trans rfl rfl
def kOp2 (f : Od → Od → Option Rv) (b : CE) (x : Rv) (s1 : S) : R Rv := (cv b s1).bind (kOp2b f x)
@[simp] theorem kOp2_s {f : Od → Od → Option Rv} {b : CE} {x : Rv} {s1 : S} : kOp2 f b x s1 = (cv b s1).bind (kOp2b f x) := Eq.trans rfl rfl
theorem opt_od2 {f : Od → Od → Option Rv} {a b : Option Od} {s : S} : (opt a fun o => opt b fun o' => opt (f o o') fun rv => .ok rv s) = odK2 f a b s := by
  cases a with
  | none => rfl
  | some o =>
    cases b with
    | none => rfl
    | some o' => exact opt_rv
@[simp] theorem cOp2_s {f : Od → Od → Option Rv} {a b : CE} {s : S} : cOp2 f a b s = (cv a s).bind (kOp2 f b) := by
  unfold cOp2
  congr 1
  funext x s1
  rw [kOp2_s]
  congr 1
  funext y s2
  exact opt_od2
@[simp] theorem cOp2r_s {f : Od → Od → Option Rv} {a b : CE} {s : S} : cOp2r f a b s = cOp2 (fun o o' => f o' o) a b s := Eq.trans rfl rfl
def boolR : Rv → S → R Bool
  | .d (.bool b), s => .ok b s
  | _, _ => .bad
@[simp] theorem boolR_b {b : Bool} {s : S} : boolR (.d (.bool b)) s = .ok b s := Eq.trans rfl rfl
@[simp] theorem cB_s {c : CE} {s : S} : cB c s = (cv c s).bind boolR := by
  unfold cB
  congr 1
  funext a s1
  rcases a with (_ | _ | _ | _ | _ | _ | _) | _ | _ <;> rfl
def bK : Option Bool → S → R Bool
  | some b, s => .ok b s
  | none, _ => .bad
@[simp] theorem bK_s {b : Bool} {s : S} : bK (some b) s = .ok b s := Eq.trans rfl rfl
def truK : Option Od → S → R Bool
  | some o, s => bK (truthy o) s
  | none, _ => .bad
@[simp] theorem truK_s {o : Od} {s : S} : truK (some o) s = bK (truthy o) s := Eq.trans rfl rfl
def kTru (a : Rv) (s1 : S) : R Bool := truK (a.od s1.m) s1
@[simp] theorem kTru_s {a : Rv} {s1 : S} : kTru a s1 = truK (a.od s1.m) s1 := Eq.trans rfl rfl
@[simp] theorem cTru_s {c : CE} {s : S} : cTru c s = (cv c s).bind kTru := by
  unfold cTru
  congr 1
  funext a s1
  rw [kTru_s]
  cases a.od s1.m with
  | none => rfl
  | some o =>
    show (opt (truthy o) fun b => R.ok b s1) = bK (truthy o) s1
    cases truthy o <;> rfl
@[simp] theorem truthy_b {b : Bool} : truthy (.d (.bool b)) = some b := Eq.trans rfl rfl
@[simp] theorem truthy_i {i : Int} : truthy (.d (.int i)) = some (i != 0) := Eq.trans rfl rfl
@[simp] theorem truthy_l {ds : List D} : truthy (.d (.list ds)) = some (!ds.isEmpty) := Eq.trans rfl rfl
@[simp] theorem truthy_t {ds : List D} : truthy (.d (.tuple ds)) = some (!ds.isEmpty) := Eq.trans rfl rfl
@[simp] theorem truthy_n : truthy (.d .none) = some false := Eq.trans rfl rfl
def kAndT (b : CT) (x : Bool) (s1 : S) : R Bool := if x = true then b s1 else .ok false s1
@[simp] theorem kAndT_s {b : CT} {x : Bool} {s1 : S} : kAndT b x s1 = if x = true then b s1 else .ok false s1 := Eq.trans rfl rfl
@[simp] theorem tAnd_s {a b : CT} {s : S} : tAnd' a b s = (a s).bind (kAndT b) := Eq.trans rfl rfl
def kOrT (b : CT) (x : Bool) (s1 : S) : R Bool := if x = true then .ok true s1 else b s1
@[simp] theorem kOrT_s {b : CT} {x : Bool} {s1 : S} : kOrT b x s1 = if x = true then .ok true s1 else b s1 := Eq.trans rfl rfl
@[simp] theorem tOr_s {a b : CT} {s : S} : tOr' a b s = (a s).bind (kOrT b) := Eq.trans rfl rfl
def kNotT (x : Bool) (s1 : S) : R Bool := .ok (!x) s1
@[simp] theorem kNotT_s {x : Bool} {s1 : S} : kNotT x s1 = .ok (!x) s1 := Eq.trans rfl rfl
@[simp] theorem tNot_s {a : CT} {s : S} : tNot' a s = (a s).bind kNotT := Eq.trans rfl rfl
def kAndE (b : CE) (x : Bool) (s1 : S) : R Rv := if x = true then b s1 else .ok (.d (.bool false)) s1
@[simp] theorem kAndE_s {b : CE} {x : Bool} {s1 : S} : kAndE b x s1 = if x = true then b s1 else .ok (.d (.bool false)) s1 := Eq.trans rfl rfl
@[simp] theorem cAnd_s {a b : CE} {s : S} : cAnd a b s = (cB a s).bind (kAndE b) := Eq.trans rfl rfl
def kOrE (b : CE) (x : Bool) (s1 : S) : R Rv := if x = true then .ok (.d (.bool true)) s1 else b s1
@[simp] theorem kOrE_s {b : CE} {x : Bool} {s1 : S} : kOrE b x s1 = if x = true then .ok (.d (.bool true)) s1 else b s1 := Eq.trans rfl rfl
@[simp] theorem cOr_s {a b : CE} {s : S} : cOr a b s = (cB a s).bind (kOrE b) := Eq.trans rfl rfl
def kNotE (x : Bool) (s1 : S) : R Rv := .ok (.d (.bool (!x))) s1
@[simp] theorem kNotE_s {x : Bool} {s1 : S} : kNotE x s1 = .ok (.d (.bool (!x))) s1 := Eq.trans rfl rfl
@[simp] theorem cNot_s {a : CE} {s : S} : cNot a s = (cB a s).bind kNotE := Eq.trans rfl rfl
def kIf (a b : CE) (x : Bool) (s1 : S) : R Rv := if x = true then a s1 else b s1
@[simp] theorem kIf_s {a b : CE} {x : Bool} {s1 : S} : kIf a b x s1 = if x = true then a s1 else b s1 := Eq.trans rfl rfl
@[simp] theorem cIf_s {t : CT} {a b : CE} {s : S} : cIf t a b s = (t s).bind (kIf a b) := Eq.trans rfl rfl
@[simp] theorem cNil_s {s : S} : cNil s = .ok [] s := Eq.trans rfl rfl
def kCons (x : D) (xs : List D) (s2 : S) : R (List D) := .ok (x :: xs) s2
@[simp] theorem kCons_s {x : D} {xs : List D} {s2 : S} : kCons x xs s2 = .ok (x :: xs) s2 := Eq.trans rfl rfl
def consR (ca : CA) : Rv → S → R (List D)
  | .d x, s1 => (ca s1).bind (kCons x)
  | _, _ => .bad
@[simp] theorem consR_d {ca : CA} {x : D} {s1 : S} : consR ca (.d x) s1 = (ca s1).bind (kCons x) := Eq.trans rfl rfl
@[simp] theorem cCons_s {c : CE} {ca : CA} {s : S} : cCons c ca s = (cv c s).bind (consR ca) := by
  unfold cCons
  congr 1
  funext a s1
  cases a <;> rfl
def kTup (ds : List D) (s1 : S) : R Rv := .ok (.d (.tuple ds)) s1
@[simp] theorem kTup_s {ds : List D} {s1 : S} : kTup ds s1 = .ok (.d (.tuple ds)) s1 := Eq.trans rfl rfl
@[simp] theorem cTup_s {ca : CA} {s : S} : cTup ca s = (ca s).bind kTup := Eq.trans rfl rfl
def kLst (ds : List D) (s1 : S) : R Rv := .ok (.new (.l ds)) s1
@[simp] theorem kLst_s {ds : List D} {s1 : S} : kLst ds s1 = .ok (.new (.l ds)) s1 := Eq.trans rfl rfl
@[simp] theorem cLst_s {ca : CA} {s : S} : cLst ca s = (ca s).bind kLst := Eq.trans rfl rfl
/-! statements -/
def Out.then (o : Out) (b : CS) : Out := match o with
  | .nx s1 => b s1
  | o => o
@[simp] theorem then_nx {s : S} {b : CS} : (Out.nx s).then b = b s := Eq.trans rfl rfl
@[simp] theorem then_rt {a : Rv} {s : S} {b : CS} : (Out.rt a s).then b = .rt a s := Eq.trans rfl rfl
@[simp] theorem then_bk {s : S} {b : CS} : (Out.bk s).then b = .bk s := Eq.trans rfl rfl
@[simp] theorem then_ct {s : S} {b : CS} : (Out.ct s).then b = .ct s := Eq.trans rfl rfl
@[simp] theorem then_ex {e : String} {s : S} {b : CS} : (Out.ex e s).then b = .ex e s := Eq.trans rfl rfl
@[simp] theorem cSeq_s {a b : CS} {s : S} : cSeq a b s = (a s).then b := by
  unfold cSeq
  generalize a s = o
  cases o <;> rfl
@[simp] theorem cNx_s {s : S} : cNx s = .nx s := Eq.trans rfl rfl
@[simp] theorem cBk_s {s : S} : cBk s = .bk s := Eq.trans rfl rfl
@[simp] theorem cCt_s {s : S} : cCt s = .ct s := Eq.trans rfl rfl
def kExp (_ : Rv) (s1 : S) : Out := .nx s1
@[simp] theorem kExp_s {a : Rv} {s1 : S} : kExp a s1 = .nx s1 := Eq.trans rfl rfl
@[simp] theorem cExp_s {c : CE} {s : S} : cExp c s = (c s).out kExp := Eq.trans rfl rfl
@[simp] theorem cRet_s {c : CE} {s : S} : cRet c s = (c s).out .rt := Eq.trans rfl rfl
@[simp] theorem cRetN_s {s : S} : cRetN s = .rt (.d .none) s := Eq.trans rfl rfl
def kIfS (a b : CS) (x : Bool) (s1 : S) : Out := if x = true then a s1 else b s1
@[simp] theorem kIfS_s {a b : CS} {x : Bool} {s1 : S} : kIfS a b x s1 = if x = true then a s1 else b s1 := Eq.trans rfl rfl
@[simp] theorem cIfS_s {t : CT} {a b : CS} {s : S} : cIfS t a b s = (t s).out (kIfS a b) := Eq.trans rfl rfl
def setR (i : Nat) : Rv → S → Out
  | .d x, s1 => .nx ⟨s1.v.set i (.d x), s1.m⟩
  | .ref n, s1 => .nx ⟨s1.v.set i (.c n), s1.m⟩
  | .t b es, s1 => .nx ⟨s1.v.set i (.t b es), s1.m⟩
  | .new _, _ => .bad
@[simp] theorem setR_t {i : Nat} {b : Bool} {es : List El} {s1 : S} : setR i (.t b es) s1 = .nx ⟨s1.v.set i (.t b es), s1.m⟩ := Eq.trans rfl rfl
@[simp] theorem setR_d {i : Nat} {x : D} {s1 : S} : setR i (.d x) s1 = .nx ⟨s1.v.set i (.d x), s1.m⟩ := Eq.trans rfl rfl
@[simp] theorem setR_ref {i : Nat} {x : Nat} {s1 : S} : setR i (.ref x) s1 = .nx ⟨s1.v.set i (.c x), s1.m⟩ := Eq.trans rfl rfl
@[simp] theorem cSet_s {i : Nat} {c : CE} {s : S} : cSet i c s = (cv c s).out (setR i) := by
  unfold cSet
  congr 1
  funext a s1
  cases a <;> rfl
def setMR (i : Nat) : Rv → S → Out
  | .new .gone, _ => .bad
  | .new (.i _ _ _), _ => .bad
  | .new (.g (.o _ _)), _ => .bad
  | .new (.g (.w _)), _ => .bad
  | .new cell, s1 => .nx ⟨s1.v.set i (.c s1.m.length), s1.m ++ [cell]⟩
  | .ref n, s1 => .nx ⟨s1.v.set i (.c n), s1.m⟩
  | .t b es, s1 => .nx ⟨s1.v.set i (.t b es), s1.m⟩
  | .d _, _ => .bad
@[simp] theorem setMR_t' {i : Nat} {b : Bool} {es : List El} {s1 : S} : setMR i (.t b es) s1 = .nx ⟨s1.v.set i (.t b es), s1.m⟩ := Eq.trans rfl rfl
@[simp] theorem setMR_l {i : Nat} {ds : List D} {s1 : S} : setMR i (.new (.l ds)) s1 = .nx ⟨s1.v.set i (.c s1.m.length), s1.m ++ [.l ds]⟩ := Eq.trans rfl rfl
@[simp] theorem setMR_k {i : Nat} {ds : List (L2.Key × D)} {s1 : S} : setMR i (.new (.k ds)) s1 = .nx ⟨s1.v.set i (.c s1.m.length), s1.m ++ [.k ds]⟩ := Eq.trans rfl rfl
@[simp] theorem setMR_t {i : Nat} {ds : List (List L2.Key × D)} {s1 : S} : setMR i (.new (.t ds)) s1 = .nx ⟨s1.v.set i (.c s1.m.length), s1.m ++ [.t ds]⟩ := Eq.trans rfl rfl
@[simp] theorem setMR_r {i : Nat} {ds : List (List L2.Key)} {s1 : S} : setMR i (.new (.r ds)) s1 = .nx ⟨s1.v.set i (.c s1.m.length), s1.m ++ [.r ds]⟩ := Eq.trans rfl rfl
@[simp] theorem setMR_ref {i : Nat} {n : Nat} {s1 : S} : setMR i (.ref n) s1 = .nx ⟨s1.v.set i (.c n), s1.m⟩ := Eq.trans rfl rfl
@[simp] theorem cSetM_s {i : Nat} {c : CE} {s : S} : cSetM i c s = (c s).out (setMR i) := by
  unfold cSetM
  congr 1
  funext a s1
  cases a with
  | d x => rfl
  | t b es => rfl
  | ref n => rfl
  | new c =>
    cases c with
    | g x => cases x <;> rfl
    | _ => rfl
def putR (i o v : Rv) (s3 : S) : Out := match v, o, i with
  | .d v, .ref n, .d k => match s3.m[n]? with
    | some c => match putIn c k v with
      | some c' => .nx ⟨s3.v, s3.m.set n c'⟩
      | none => .bad
    | none => .bad
  | _, _, _ => .bad
def kPut3 (o v i : Rv) (s3 : S) : Out := putR i o v s3
@[simp] theorem kPut3_s {o v i : Rv} {s3 : S} : kPut3 o v i s3 = putR i o v s3 := Eq.trans rfl rfl
def kPut2 (ci : CE) (v o : Rv) (s2 : S) : Out := (cv ci s2).out (kPut3 o v)
@[simp] theorem kPut2_s {ci : CE} {v o : Rv} {s2 : S} : kPut2 ci v o s2 = (cv ci s2).out (kPut3 o v) := Eq.trans rfl rfl
def kPut1 (co ci : CE) (v : Rv) (s1 : S) : Out := (cv co s1).out (kPut2 ci v)
@[simp] theorem kPut1_s {co ci : CE} {v : Rv} {s1 : S} : kPut1 co ci v s1 = (cv co s1).out (kPut2 ci v) := Eq.trans rfl rfl
@[simp] theorem cPut_s {co ci cw : CE} {s : S} : cPut co ci cw s = (cv cw s).out (kPut1 co ci) := Eq.trans rfl rfl
def putK (v : List Sl) (m : List Cell) (n : Nat) : Option Cell → Out
  | some c => .nx ⟨v, m.set n c⟩
  | none => .bad
@[simp] theorem putK_s {v : List Sl} {m : List Cell} {n : Nat} {c : Cell} : putK v m n (some c) = .nx ⟨v, m.set n c⟩ := Eq.trans rfl rfl
@[simp] theorem putR_s {n : Nat} {k v : D} {s3 : S} {c : Cell} (h : s3.m[n]? = some c) : putR (.d k) (.ref n) (.d v) s3 = putK s3.v s3.m n (putIn c k v) := by
  unfold putR
  dsimp only
  rw [h]
  dsimp only
  generalize putIn c k v = o
  cases o <;> rfl
/-! calls -/
@[simp] theorem lNil_s {s : S} : lNil s = .ok [] s := Eq.trans rfl rfl
def kLc (x : Sl) (r : List Sl) (s2 : S) : R (List Sl) := .ok (x :: r) s2
@[simp] theorem kLc_s {x : Sl} {r : List Sl} {s2 : S} : kLc x r s2 = .ok (x :: r) s2 := Eq.trans rfl rfl
def lconsR (cl : CL) : Rv → S → R (List Sl)
  | .d x, s1 => (cl s1).bind (kLc (.d x))
  | .ref n, s1 => (cl s1).bind (kLc (.c n))
  | .t b es, s1 => (cl s1).bind (kLc (.t b es))
  | _, _ => .bad
@[simp] theorem lconsR_t {cl : CL} {b : Bool} {es : List El} {s1 : S} : lconsR cl (.t b es) s1 = (cl s1).bind (kLc (.t b es)) := Eq.trans rfl rfl
@[simp] theorem lconsR_d {cl : CL} {x : D} {s1 : S} : lconsR cl (.d x) s1 = (cl s1).bind (kLc (.d x)) := Eq.trans rfl rfl
@[simp] theorem lconsR_r {cl : CL} {x : Nat} {s1 : S} : lconsR cl (.ref x) s1 = (cl s1).bind (kLc (.c x)) := Eq.trans rfl rfl
@[simp] theorem lCons_s {c : CE} {cl : CL} {s : S} : lCons c cl s = (cv c s).bind (lconsR cl) := by
  unfold lCons
  congr 1
  funext a s1
  cases a <;> rfl
def kCall (f : Fn) (as : List Sl) (s1 : S) : R Rv := (f as s1.m).toR s1.v
@[simp] theorem kCall_s {f : Fn} {as : List Sl} {s1 : S} : kCall f as s1 = (f as s1.m).toR s1.v := Eq.trans rfl rfl
@[simp] theorem cCall_s {f : Fn} {cl : CL} {s : S} : cCall f cl s = (cl s).bind (kCall f) := Eq.trans rfl rfl
@[simp] theorem toR_ok {a : Rv} {m : List Cell} {v : List Sl} : (RF.ok a m).toR v = .ok a ⟨v, m⟩ := Eq.trans rfl rfl
@[simp] theorem toR_ex {a : String} {m : List Cell} {v : List Sl} : (RF.ex a m).toR v = .ex a ⟨v, m⟩ := Eq.trans rfl rfl
def kCallP (f : Fn) (as : List Sl) (s1 : S) : R Rv := if as.all Sl.isD = true then (f as []).pure s1 else .bad
@[simp] theorem kCallP_s {f : Fn} {as : List Sl} {s1 : S} : kCallP f as s1 = if as.all Sl.isD = true then (f as []).pure s1 else .bad := Eq.trans rfl rfl
@[simp] theorem cCallP_s {f : Fn} {cl : CL} {s : S} : cCallP f cl s = (cl s).bind (kCallP f) := Eq.trans rfl rfl
@[simp] theorem isD_d {x : D} : (Sl.d x).isD = true := Eq.trans rfl rfl
@[simp] theorem pure_d {x : D} {m : List Cell} {s : S} : (RF.ok (.d x) m).pure s = .ok (.d x) s := Eq.trans rfl rfl
@[simp] theorem pure_new {x : Cell} {m : List Cell} {s : S} : (RF.ok (.new x) m).pure s = .ok (.new x) s := Eq.trans rfl rfl
@[simp] theorem pure_ex {x : String} {m : List Cell} {s : S} : (RF.ex x m).pure s = .ex x s := Eq.trans rfl rfl
theorem runF_s {n : Nat} {c : CS} {as : List Sl} {m : List Cell} : runF n c as m = fin m (c ⟨as ++ List.replicate (n - as.length) .u, m⟩) := rfl
@[simp] theorem fin_d {m : List Cell} {x : D} {s : S} : fin m (.rt (.d x) s) = .ok (.d x) (s.m.take m.length) := Eq.trans rfl rfl
@[simp] theorem fin_new {m : List Cell} {x : Cell} {s : S} : fin m (.rt (.new x) s) = .ok (.new x) (s.m.take m.length) := Eq.trans rfl rfl
@[simp] theorem fin_ex {m : List Cell} {x : String} {s : S} : fin m (.ex x s) = .ex x (s.m.take m.length) := Eq.trans rfl rfl
@[simp] theorem fin_nx {m : List Cell} {s : S} : fin m (.nx s) = .ok (.d .none) (s.m.take m.length) := Eq.trans rfl rfl
/-! operations -/
section
variable {i j : Int}
@[simp] theorem opAdd_i : opAdd (.d (.int i)) (.d (.int j)) = some (.d (.int (i + j))) := Eq.trans rfl rfl
@[simp] theorem opSub_i : opSub (.d (.int i)) (.d (.int j)) = some (.d (.int (i - j))) := Eq.trans rfl rfl
@[simp] theorem opNeg_i : opNeg (.d (.int i)) = some (.d (.int (-i))) := Eq.trans rfl rfl
@[simp] theorem opAbs_i : opAbs (.d (.int i)) = some (.d (.int (if i < 0 then -i else i))) := Eq.trans rfl rfl
theorem opMul_i (h : mulOk i j = true) : opMulV (.d (.int i)) (.d (.int j)) = some (.d (.int (i * j))) := by
  show (if mulOk i j = true then _ else _) = _
  rw [if_pos h]
theorem opMod_i (h : 0 < j) : opMod (.d (.int i)) (.d (.int j)) = some (.d (.int (i % j))) := by
  show (if j ≠ 0 then some (Rv.d (.int (fmd i j))) else none) = _
  rw [if_pos (by omega)]
  unfold fmd
  rw [if_pos h]
theorem opDiv_i (h : 0 < j) (h2 : j.natAbs.log2 < 9000) : opDiv (.d (.int i)) (.d (.int j)) = some (.d (.int (i / j))) := by
  show (if j ≠ 0 ∧ j.natAbs.log2 < 9000 then some (Rv.d (.int (fdv i j))) else none) = _
  rw [if_pos ⟨by omega, h2⟩]
  unfold fdv
  rw [if_pos h]
theorem opPow_i (h : 0 ≤ j) (h2 : j ≤ 1000000) (h3 : i.natAbs < 2 ^ 64) : opPow (.d (.int i)) (.d (.int j)) = some (.d (.int (i ^ j.toNat))) := by
  show (if 0 ≤ j ∧ j ≤ 1000000 ∧ i.natAbs < 2 ^ 64 then some (Rv.d (.int (i ^ j.toNat))) else none) = _
  rw [if_pos ⟨h, h2, h3⟩]
@[simp] theorem opLt_i : opLt (.d (.int i)) (.d (.int j)) = some (.d (.bool (decide (i < j)))) := Eq.trans rfl rfl
@[simp] theorem opLe_i : opLe (.d (.int i)) (.d (.int j)) = some (.d (.bool (decide (i ≤ j)))) := Eq.trans rfl rfl
@[simp] theorem opGt_i : opGt (.d (.int i)) (.d (.int j)) = some (.d (.bool (decide (j < i)))) := Eq.trans rfl rfl
@[simp] theorem opGe_i : opGe (.d (.int i)) (.d (.int j)) = some (.d (.bool (decide (j ≤ i)))) := Eq.trans rfl rfl
@[simp] theorem opEq_i : opEq (.d (.int i)) (.d (.int j)) = some (.d (.bool (decide (i = j)))) := Eq.trans rfl rfl
@[simp] theorem opNe_i : opNe (.d (.int i)) (.d (.int j)) = some (.d (.bool (!decide (i = j)))) := Eq.trans rfl rfl
@[simp] theorem opLen_l {ds : List D} : opLen (.d (.list ds)) = some (.d (.int ds.length)) := Eq.trans rfl rfl
@[simp] theorem opLen_t {ds : List D} : opLen (.d (.tuple ds)) = some (.d (.int ds.length)) := Eq.trans rfl rfl
end
theorem atI_nat {α : Type} {xs : List α} {i : Int} {x : α} (h0 : 0 ≤ i) (h : xs[i.toNat]? = some x) : atI xs i = some x := by
  have hl : i.toNat < xs.length := (List.getElem?_eq_some_iff.mp h).1
  unfold atI ixN
  rw [if_pos h0, if_pos (by omega)]
  exact h
theorem opIx_l {ds : List D} {i : Int} {x : D} (h : atI ds i = some x) : opIx (.d (.list ds)) (.d (.int i)) = some (.d x) := by
  show (match atI ds i with | some d => some (Rv.d d) | none => none) = _
  rw [h]
theorem opIx_t {ds : List D} {i : Int} {x : D} (h : atI ds i = some x) : opIx (.d (.tuple ds)) (.d (.int i)) = some (.d x) := by
  show (match atI ds i with | some d => some (Rv.d d) | none => none) = _
  rw [h]
theorem log2_lt {n k : Nat} (h : n < 2 ^ k) : n.log2 < k + 1 := by
  by_cases h0 : n = 0
  · subst h0
    show 0 < k + 1
    omega
  · have := (Nat.log2_lt h0).mpr h
    omega
theorem mulOk_small {i j : Int} (hi : i.natAbs < 2 ^ 200) (hj : j.natAbs < 2 ^ 200) : mulOk i j = true := by
  unfold mulOk
  rw [decide_eq_true_eq]
  have h1 := log2_lt hi
  have h2 := log2_lt hj
  omega
theorem log2_many {j : Int} (h0 : 0 < j) (h : j < 2 ^ 200) : j.natAbs.log2 < 9000 := by
  have := log2_lt (n := j.natAbs) (k := 200) (by omega)
  omega
theorem opDiv_s {i j : Int} (h : 0 < j) (h2 : j < 18446744073709551616) : opDiv (.d (.int i)) (.d (.int j)) = some (.d (.int (i / j))) := opDiv_i h (log2_many h (by omega))
/-! loops -/
def Out.loop (o : Out) (k : S → Out) : Out := match o with
  | .nx s => k s
  | .ct s => k s
  | .bk s => .nx s
  | o => o
@[simp] theorem loop_nx {s : S} {k : S → Out} : (Out.nx s).loop k = k s := Eq.trans rfl rfl
@[simp] theorem loop_ct {s : S} {k : S → Out} : (Out.ct s).loop k = k s := Eq.trans rfl rfl
@[simp] theorem loop_bk {s : S} {k : S → Out} : (Out.bk s).loop k = .nx s := Eq.trans rfl rfl
@[simp] theorem loop_rt {a : Rv} {s : S} {k : S → Out} : (Out.rt a s).loop k = .rt a s := Eq.trans rfl rfl
@[simp] theorem forL_nil {tg : Tg} {body : CS} {s : S} : forL tg body [] s = .nx s := Eq.trans rfl rfl
theorem forL_cons {tg : Tg} {body : CS} {d : D} {ds : List D} {s s1 : S} (h : tg d s = some s1) : forL tg body (d :: ds) s = (body s1).loop (forL tg body ds) := by
  show (match tg d s with | none => Out.bad | some s1 => (match body s1 with
      | .nx s2 => forL tg body ds s2
      | .ct s2 => forL tg body ds s2
      | .bk s2 => .nx s2
      | o => o)) = _
  rw [h]
  dsimp only
  generalize body s1 = o
  cases o <;> rfl
theorem forL_from {tg : Tg} {body : CS} (I : Nat → S → Prop) : ∀ (ds : List D) (k : Nat) (s : S), (∀ i s d, ds[i]? = some d → I (k + i) s → ∃ s1 s2, tg d s = some s1 ∧ (body s1 = .nx s2 ∨ body s1 = .ct s2) ∧ I (k + i + 1) s2) → I k s → ∃ s', forL tg body ds s = .nx s' ∧ I (k + ds.length) s'
  | [], k, s, _, h0 => ⟨s, rfl, h0⟩
  | d :: ds, k, s, h, h0 => by
    obtain ⟨s1, s2, e1, e2, h1⟩ := h 0 s d rfl h0
    have r : forL tg body (d :: ds) s = forL tg body ds s2 := by
      rw [forL_cons e1]
      rcases e2 with e2 | e2 <;> rw [e2] <;> rfl
    rw [r]
    obtain ⟨s', e, h2⟩ := forL_from I ds (k + 1) s2 (fun i s d hd hi => by
      have := h (i + 1) s d (by simpa using hd) (by rw [show k + (i + 1) = k + 1 + i by omega]; exact hi)
      rw [show k + (i + 1) + 1 = k + 1 + i + 1 by omega] at this
      exact this) h1
    refine ⟨s', e, ?_⟩
    rw [List.length_cons, show k + (ds.length + 1) = k + 1 + ds.length by omega]
    exact h2
/-- a for loop that keeps I -/
theorem forL_inv {tg : Tg} {body : CS} (I : Nat → S → Prop) {ds : List D} {s : S} (h0 : I 0 s) (h : ∀ i s d, ds[i]? = some d → I i s → ∃ s1 s2, tg d s = some s1 ∧ (body s1 = .nx s2 ∨ body s1 = .ct s2) ∧ I (i + 1) s2) : ∃ s', forL tg body ds s = .nx s' ∧ I ds.length s' := by
  obtain ⟨s', e, h1⟩ := forL_from I ds 0 s (fun i s d hd hi => by
    rw [Nat.zero_add] at hi ⊢
    exact h i s d hd hi) h0
  rw [Nat.zero_add] at h1
  exact ⟨s', e, h1⟩
theorem rangeD_at : ∀ (n : Nat) (lo : Int) (i : Nat), i < n → (rangeD lo n)[i]? = some (.int (lo + i))
  | 0, _, _, h => by omega
  | n + 1, lo, 0, _ => by
    show some (PyData.int lo) = _
    rw [show lo + ((0 : Nat) : Int) = lo by omega]
  | n + 1, lo, i + 1, h => by
    show (rangeD (lo + 1) n)[i]? = _
    rw [rangeD_at n (lo + 1) i (by omega), show lo + 1 + (i : Int) = lo + ((i + 1 : Nat) : Int) by omega]
theorem rangeD_lt {n : Nat} {lo : Int} {i : Nat} {d : D} (h : (rangeD lo n)[i]? = some d) : i < n ∧ d = .int (lo + i) := by
  have hl : i < (rangeD lo n).length := (List.getElem?_eq_some_iff.mp h).1
  rw [rangeD_len] at hl
  refine ⟨hl, ?_⟩
  rw [rangeD_at n lo i hl] at h
  cases h
  rfl
@[simp] theorem cFor_s {ci : CI} {tg : Tg} {body : CS} {s : S} : cFor ci tg body s = (ci s).out fun ds s1 => forL tg body ds s1 := Eq.trans rfl rfl
theorem ciR1_s {c : CE} {s s1 : S} {n : Int} (h : c s = .ok (.d (.int n)) s1) (hn : -4611686018427387904 ≤ n) (hn2 : n < 4611686018427387904) : ciR1 c s = .ok (rangeD 0 n.toNat) s1 := by
  unfold ciR1
  rw [cv_s, h, bind_ok, frz_d, bind_ok]
  dsimp only
  rw [if_pos (by unfold small62; simp; omega)]
def seqR : Rv → S → R (List D)
  | .d (.list ds), s1 => .ok ds s1
  | .d (.tuple ds), s1 => .ok ds s1
  | _, _ => .bad
@[simp] theorem seqR_l {ds : List D} {s : S} : seqR (.d (.list ds)) s = .ok ds s := Eq.trans rfl rfl
@[simp] theorem seqR_t {ds : List D} {s : S} : seqR (.d (.tuple ds)) s = .ok ds s := Eq.trans rfl rfl
@[simp] theorem ciSeq_s {c : CE} {s : S} : ciSeq c s = (cv c s).bind seqR := by
  unfold ciSeq
  congr 1
  funext a s1
  rcases a with (_ | _ | _ | _ | _ | _ | _) | _ | _ <;> rfl
@[simp] theorem tgN_s {i : Nat} {d : D} {s : S} : tgN i d s = some ⟨s.v.set i (.d d), s.m⟩ := Eq.trans rfl rfl
/-! checks that the kernel runs -/
end Vm
namespace Vm
open PySem L2
/-! ### the pen that is a dict -/
def penC (cells : List Int) (at' left : Int) : Cell := .k [(.inr "cells", .list (cells.map PyData.int)), (.inr "at", .int at'), (.inr "left", .int left)]
section
variable {cells : List Int} {at' left v : Int}
@[simp] theorem odC_pen : odC (some (penC cells at' left)) = some (.c (penC cells at' left)) := rfl
@[simp] theorem pen_cells : opItem (.c (penC cells at' left)) (.d (.str "cells")) = some (.d (.list (cells.map PyData.int))) := by
  simp [opItem, penC, look, keyOf, getD]
@[simp] theorem pen_at : opItem (.c (penC cells at' left)) (.d (.str "at")) = some (.d (.int at')) := by
  have h : ((Sum.inr ("cells" : Str) : L2.Key) = Sum.inr ("at" : Str)) = False := eq_false (by decide)
  simp [opItem, penC, look, keyOf, getD, List.find?, h]
@[simp] theorem pen_left : opItem (.c (penC cells at' left)) (.d (.str "left")) = some (.d (.int left)) := by
  have h : ((Sum.inr ("cells" : Str) : L2.Key) = Sum.inr ("left" : Str)) = False := eq_false (by decide)
  have h2 : ((Sum.inr ("at" : Str) : L2.Key) = Sum.inr ("left" : Str)) = False := eq_false (by decide)
  simp [opItem, penC, look, keyOf, getD, List.find?, h, h2]
@[simp] theorem pen_put_at : putIn (penC cells at' left) (.str "at") (.int v) = some (penC cells v left) := by
  have h : ((Sum.inr ("cells" : Str) : L2.Key) = Sum.inr ("at" : Str)) = False := eq_false (by decide)
  have h2 : ((Sum.inr ("left" : Str) : L2.Key) = Sum.inr ("at" : Str)) = False := eq_false (by decide)
  simp [penC, putIn, keyOf, putD, h, h2]
@[simp] theorem pen_put_left : putIn (penC cells at' left) (.str "left") (.int v) = some (penC cells at' v) := by
  have h : ((Sum.inr ("cells" : Str) : L2.Key) = Sum.inr ("left" : Str)) = False := eq_false (by decide)
  have h2 : ((Sum.inr ("at" : Str) : L2.Key) = Sum.inr ("left" : Str)) = False := eq_false (by decide)
  simp [penC, putIn, keyOf, putD, h, h2]
end
structure IsPen (B : Nat) (p : Cell) : Prop where
  ex : ∃ cells at' left, p = penC cells at' left ∧ cells.length ≤ 63 ∧ 0 ≤ at' ∧ at' ≤ B ∧ 0 ≤ left
theorem IsPen.mono {B C : Nat} {p : Cell} (h : IsPen B p) (hb : B ≤ C) : IsPen C p := by
  obtain ⟨a, b, c, h1, h2, h3, h4, h5⟩ := h.ex
  exact ⟨a, b, c, h1, h2, h3, by omega, h5⟩
/-- a draw from many -/
def IsDraw (f : Fn) (P : Nat → Cell → Prop) : Prop := ∀ (B : Nat) (p : Cell) (r : List Cell) (many : Int), P B p → B < 1000000 → 0 < many → many.natAbs.log2 < 9000 → ∃ v p', f [.c 0, .d (.int many)] (p :: r) = .ok (.d (.int v)) (p' :: r) ∧ 0 ≤ v ∧ v < many ∧ P (B + 1) p'
def cRestA : CS :=
 (cSeq (cIfS (tAnd' (cB (cOp2 opLt (cVar 3) (cOp1 opLen (cOp2 opItem (cVar 0) (cC (.str "cells")))))) (cB (cOp2 opGe (cOp1 opAbs (cVar 4)) (cOp2 opPow (cC (.int 10)) (cC (.int 18))))))
 (cSeq (cPut (cVar 0) (cC (.str "left")) (cOp2 opDiv (cOp1 opAbs (cVar 4)) (cVar 1)))
 (cRet (cOp2 opMod (cOp1 opAbs (cVar 4)) (cVar 1))))
 cNx)
 (cSeq (cSet 5 (cOp2 opIx (cTup (cCons (cC (.int 2147483647)) (cCons (cC (.int 2147483629)) (cCons (cC (.int 2147483587)) (cCons (cC (.int 2147483579)) (cCons (cC (.int 2147483563)) (cCons (cC (.int 2147483549)) (cCons (cC (.int 2147483543)) cNil)))))))) (cOp2 opMod (cVar 3) (cC (.int 7)))))
 (cSeq (cSet 6 (cOp2 opMod (cOp2 opPow (cOp2 opAdd (cOp2 opAdd (cOp2 opAdd (cOp2 opMod (cVar 4) (cC (.int 2147483497))) (cOp2 opMulV (cOp2 opMulV (cC (.int 75329)) (cVar 3)) (cVar 3))) (cOp2 opMulV (cC (.int 30011)) (cVar 3))) (cC (.int 271))) (cC (.int 3))) (cVar 5)))
 (cSeq (cSet 6 (cOp2 opMod (cOp2 opPow (cOp2 opAdd (cOp2 opAdd (cVar 6) (cOp2 opMulV (cC (.int 11)) (cVar 3))) (cC (.int 5))) (cC (.int 2))) (cC (.int 2147483489))))
 (cRet (cOp2 opMod (cOp2 opDiv (cOp2 opMod (cOp2 opMulV (cVar 6) (cC (.int 69621))) (cC (.int 2147483477))) (cC (.int 1013))) (cVar 1)))))))
def cDrawA : CS :=
 (cSeq (cIfS (cB (cOp2 opGt (cOp2 opItem (cVar 0) (cC (.str "left"))) (cC (.int 0))))
 (cSeq (cSet 2 (cOp2 opMod (cOp2 opItem (cVar 0) (cC (.str "left"))) (cVar 1)))
 (cSeq (cPut (cVar 0) (cC (.str "left")) (cOp2 opDiv (cOp2 opItem (cVar 0) (cC (.str "left"))) (cVar 1)))
 (cRet (cVar 2))))
 cNx)
 (cSeq (cSet 3 (cOp2 opItem (cVar 0) (cC (.str "at"))))
 (cSeq (cPut (cVar 0) (cC (.str "at")) (cOp2 opAdd (cVar 3) (cC (.int 1))))
 (cSeq (cSet 4 (cOp2 opAdd (cOp2 opMulV (cC (.int 23)) (cVar 3)) (cC (.int 5))))
 (cSeq (cIfS (cB (cOp2 opGt (cOp1 opLen (cOp2 opItem (cVar 0) (cC (.str "cells")))) (cC (.int 0))))
 (cSet 4 (cOp2 opIx (cOp2 opItem (cVar 0) (cC (.str "cells"))) (cOp2 opMod (cVar 3) (cOp1 opLen (cOp2 opItem (cVar 0) (cC (.str "cells")))))))
 cNx)
 cRestA)))))
def fDrawA : Fn := runF 7 cDrawA
theorem restA {cells : List Int} {at' c many : Int} {r : List Cell} {B : Nat} (h63 : cells.length ≤ 63) (ha0 : 0 ≤ at') (haB : at' ≤ B) (hB : B < 1000000) (hm : 0 < many) (hm2 : many.natAbs.log2 < 9000) :
    ∃ v p' v', cRestA ⟨[.c 0, .d (.int many), .u, .d (.int at'), .d (.int c), .u, .u], penC cells (at' + 1) 0 :: r⟩ = .rt (.d (.int v)) ⟨v', p' :: r⟩ ∧ 0 ≤ v ∧ v < many ∧ IsPen (B + 1) p' := by
  have hp : opPow (.d (.int 10)) (.d (.int 18)) = some (.d (.int 1000000000000000000)) := rfl
  obtain ⟨a, ha⟩ : ∃ a : Int, (if c < 0 then -c else c) = a := ⟨_, rfl⟩
  have oa : opAbs (.d (.int c)) = some (.d (.int a)) := by rw [← ha]; rfl
  have ab : 0 ≤ a := by rw [← ha]; split <;> omega
  by_cases h : at' < cells.length ∧ 1000000000000000000 ≤ a
  · refine ⟨a % many, penC cells (at' + 1) (a / many), [.c 0, .d (.int many), .u, .d (.int at'), .d (.int c), .u, .u], ?_, Int.emod_nonneg _ (by omega), Int.emod_lt_of_pos _ hm, cells, at' + 1, _, rfl, h63, by omega, by omega, Int.ediv_nonneg ab (by omega)⟩
    simp [-opAbs_i, oa, cRestA, hp, h.1, h.2, opMod_i hm, opDiv_i hm hm2]
  · have hn : (at' < cells.length → ¬ (1000000000000000000 ≤ a)) := fun a b => h ⟨a, b⟩
    obtain ⟨pr, hpr, hp0, hpb⟩ : ∃ pr : Int, atI [PyData.int 2147483647, .int 2147483629, .int 2147483587, .int 2147483579, .int 2147483563, .int 2147483549, .int 2147483543] (at' % 7) = some (.int pr) ∧ 0 < pr ∧ pr ≤ 2147483647 := by
      have h7 : at' % 7 = 0 ∨ at' % 7 = 1 ∨ at' % 7 = 2 ∨ at' % 7 = 3 ∨ at' % 7 = 4 ∨ at' % 7 = 5 ∨ at' % 7 = 6 := by omega
      rcases h7 with e | e | e | e | e | e | e <;> rw [e]
      · exact ⟨2147483647, rfl, by decide, by decide⟩
      · exact ⟨2147483629, rfl, by decide, by decide⟩
      · exact ⟨2147483587, rfl, by decide, by decide⟩
      · exact ⟨2147483579, rfl, by decide, by decide⟩
      · exact ⟨2147483563, rfl, by decide, by decide⟩
      · exact ⟨2147483549, rfl, by decide, by decide⟩
      · exact ⟨2147483543, rfl, by decide, by decide⟩
    have hc1 : 0 ≤ c % 2147483497 := Int.emod_nonneg _ (by decide)
    have hc2 : c % 2147483497 < 2147483497 := Int.emod_lt_of_pos _ (by decide)
    have hb1 : 75329 * at' * at' ≤ 75329 * 1000000 * 1000000 := Int.mul_le_mul (by omega) (by omega) ha0 (by omega)
    have hb0 : 0 ≤ 75329 * at' * at' := Int.mul_nonneg (by omega) ha0
    have m1 : opMulV (.d (.int 75329)) (.d (.int at')) = some (.d (.int (75329 * at'))) := opMul_i (mulOk_small (by omega) (by omega))
    have m2 : opMulV (.d (.int (75329 * at'))) (.d (.int at')) = some (.d (.int (75329 * at' * at'))) := opMul_i (mulOk_small (by omega) (by omega))
    have m3 : opMulV (.d (.int 30011)) (.d (.int at')) = some (.d (.int (30011 * at'))) := opMul_i (mulOk_small (by omega) (by omega))
    have m4 : opMulV (.d (.int 11)) (.d (.int at')) = some (.d (.int (11 * at'))) := opMul_i (mulOk_small (by omega) (by omega))
    have p1 : opPow (.d (.int (c % 2147483497 + 75329 * at' * at' + 30011 * at' + 271))) (.d (.int 3)) = some (.d (.int ((c % 2147483497 + 75329 * at' * at' + 30011 * at' + 271) ^ 3))) := opPow_i (by decide) (by decide) (by omega)
    generalize hx : (c % 2147483497 + 75329 * at' * at' + 30011 * at' + 271) ^ 3 % pr = x at *
    have hx0 : 0 ≤ x := by rw [← hx]; exact Int.emod_nonneg _ (by omega)
    have hx1 : x < 2147483647 := by have := Int.emod_lt_of_pos ((c % 2147483497 + 75329 * at' * at' + 30011 * at' + 271) ^ 3) hp0; omega
    have p2 : opPow (.d (.int (x + 11 * at' + 5))) (.d (.int 2)) = some (.d (.int ((x + 11 * at' + 5) ^ 2))) := opPow_i (by decide) (by decide) (by omega)
    generalize hy : (x + 11 * at' + 5) ^ 2 % 2147483489 = y at *
    have hy0 : 0 ≤ y := by rw [← hy]; exact Int.emod_nonneg _ (by omega)
    have hy1 : y < 2147483489 := by rw [← hy]; exact Int.emod_lt_of_pos _ (by decide)
    have m5 : opMulV (.d (.int y)) (.d (.int 69621)) = some (.d (.int (y * 69621))) := opMul_i (mulOk_small (by omega) (by omega))
    refine ⟨y * 69621 % 2147483477 / 1013 % many, penC cells (at' + 1) 0, [.c 0, .d (.int many), .u, .d (.int at'), .d (.int c), .d (.int pr), .d (.int y)], ?_, Int.emod_nonneg _ (by omega), Int.emod_lt_of_pos _ hm, cells, at' + 1, 0, rfl, h63, by omega, by omega, by omega⟩
    have ix := opIx_t hpr
    by_cases h1 : at' < cells.length
    · simp [-opAbs_i, oa, cRestA, hp, h1, hn h1, opMod_i hm, opMod_i, opDiv_s, m1, m2, m3, m4, m5, p1, p2, hx, hy, ix, hp0]
    · simp [-opAbs_i, oa, cRestA, hp, h1, opMod_i hm, opMod_i, opDiv_s, m1, m2, m3, m4, m5, p1, p2, hx, hy, ix, hp0]
theorem drawA : IsDraw fDrawA IsPen := by
  intro B p r many hp hB hm hm2
  obtain ⟨cells, at', left, rfl, h63, ha0, haB, hl⟩ := hp.ex
  unfold fDrawA
  rw [runF_s]
  by_cases h : 0 < left
  · refine ⟨left % many, penC cells at' (left / many), ?_, Int.emod_nonneg _ (by omega), Int.emod_lt_of_pos _ hm, cells, at', left / many, rfl, h63, ha0, by omega, Int.ediv_nonneg hl (by omega)⟩
    simp [cDrawA, h, opMod_i hm, opDiv_i hm hm2]
  · have hl0 : left = 0 := by omega
    subst hl0
    have m1 : opMulV (.d (.int 23)) (.d (.int at')) = some (.d (.int (23 * at'))) := opMul_i (mulOk_small (by omega) (by omega))
    by_cases hc : 0 < cells.length
    · have hc' : (0 : Int) < cells.length := by omega
      have hi0 : 0 ≤ at' % cells.length := Int.emod_nonneg _ (by omega)
      have hi1 : at' % cells.length < cells.length := Int.emod_lt_of_pos _ hc'
      obtain ⟨c, hcx⟩ : ∃ c, cells[(at' % (cells.length : Int)).toNat]? = some c := ⟨_, List.getElem?_eq_getElem (by omega)⟩
      have ix := opIx_l (ds := cells.map PyData.int) (i := at' % cells.length) (x := .int c) (atI_nat hi0 (by rw [List.getElem?_map, hcx]; rfl))
      obtain ⟨v, p', v', e, h1, h2, h3⟩ := restA (c := c) (r := r) h63 ha0 haB hB hm hm2
      refine ⟨v, p', ?_, h1, h2, h3⟩
      simp [cDrawA, h, m1, hc, hc', opMod_i hc', ix, e]
    · obtain ⟨v, p', v', e, h1, h2, h3⟩ := restA (c := 23 * at' + 5) (r := r) h63 ha0 haB hB hm hm2
      refine ⟨v, p', ?_, h1, h2, h3⟩
      simp [cDrawA, h, m1, hc, e]
end Vm
namespace Vm
open PySem L2
/-! ### more runs step by step -/
/-- the cell of a list -/
def mutR (f : List D → List D → Option (D × List D)) (ca : CA) : Rv → S → R Rv
  | .ref n, s1 => match s1.m[n]? with
    | some (.l _) => (ca s1).bind fun ds s2 => match s2.m[n]? with
      | some (.l xs) => match f xs ds with
        | some (d, ys) => .ok (.d d) ⟨s2.v, s2.m.set n (.l ys)⟩
        | none => .bad
      | _ => .bad
    | _ => .bad
  | _, _ => .bad
@[simp] theorem cMut_s {f : List D → List D → Option (D × List D)} {co : CE} {ca : CA} {s : S} : cMut f co ca s = (cv co s).bind (mutR f ca) := by
  unfold cMut
  congr 1
  funext a s1
  cases a <;> rfl
def mutK (v : List Sl) (m : List Cell) (n : Nat) : Option (D × List D) → R Rv
  | some (d, ys) => .ok (.d d) ⟨v, m.set n (.l ys)⟩
  | none => .bad
@[simp] theorem mutK_s {v : List Sl} {m : List Cell} {n : Nat} {d : D} {ys : List D} : mutK v m n (some (d, ys)) = .ok (.d d) ⟨v, m.set n (.l ys)⟩ := Eq.trans rfl rfl
def mutA (f : List D → List D → Option (D × List D)) (n : Nat) (ds : List D) (s2 : S) : R Rv := match s2.m[n]? with
  | some (.l xs) => mutK s2.v s2.m n (f xs ds)
  | _ => .bad
@[simp] theorem mutA_s {f : List D → List D → Option (D × List D)} {n : Nat} {ds xs : List D} {s2 : S} (h : s2.m[n]? = some (.l xs)) : mutA f n ds s2 = mutK s2.v s2.m n (f xs ds) := by
  unfold mutA
  rw [h]
@[simp] theorem mutR_s {f : List D → List D → Option (D × List D)} {ca : CA} {n : Nat} {s1 : S} {xs : List D} (h : s1.m[n]? = some (.l xs)) : mutR f ca (.ref n) s1 = (ca s1).bind (mutA f n) := by
  unfold mutR
  dsimp only
  rw [h]
  dsimp only
  congr 1
@[simp] theorem fRev_s {xs : List D} : fRev xs [] = some (.none, xs.reverse) := Eq.trans rfl rfl
@[simp] theorem fClr_s {xs : List D} : fClr xs [] = some (.none, []) := Eq.trans rfl rfl
theorem fApp_s {xs : List D} {d : D} (h : xs.length < 16000000) : fApp xs [d] = some (.none, xs ++ [d]) := by
  show (if xs.length < 16000000 then _ else _) = _
  rw [if_pos h]
/-- xs[i] = e -/
def putLR (i o v : Rv) (s3 : S) : Out := match v, o, i with
  | .d v, .ref n, .d (.int k) => match s3.m[n]? with
    | some (.l xs) => match ixN xs.length k with
      | some j => .nx ⟨s3.v, s3.m.set n (.l (xs.set j v))⟩
      | none => .bad
    | _ => .bad
  | _, _, _ => .bad
def kPutL3 (o v i : Rv) (s3 : S) : Out := putLR i o v s3
@[simp] theorem kPutL3_s {o v i : Rv} {s3 : S} : kPutL3 o v i s3 = putLR i o v s3 := Eq.trans rfl rfl
def kPutL2 (ci : CE) (v o : Rv) (s2 : S) : Out := (cv ci s2).out (kPutL3 o v)
@[simp] theorem kPutL2_s {ci : CE} {v o : Rv} {s2 : S} : kPutL2 ci v o s2 = (cv ci s2).out (kPutL3 o v) := Eq.trans rfl rfl
def kPutL1 (co ci : CE) (v : Rv) (s1 : S) : Out := (cv co s1).out (kPutL2 ci v)
@[simp] theorem kPutL1_s {co ci : CE} {v : Rv} {s1 : S} : kPutL1 co ci v s1 = (cv co s1).out (kPutL2 ci v) := Eq.trans rfl rfl
@[simp] theorem cPutL_s {co ci cw : CE} {s : S} : cPutL co ci cw s = (cv cw s).out (kPutL1 co ci) := Eq.trans rfl rfl
theorem putLR_s {n : Nat} {k : Int} {v : D} {s3 : S} {xs : List D} (h : s3.m[n]? = some (.l xs)) (h0 : 0 ≤ k) (h1 : k < xs.length) : putLR (.d (.int k)) (.ref n) (.d v) s3 = .nx ⟨s3.v, s3.m.set n (.l (xs.set k.toNat v))⟩ := by
  unfold putLR
  dsimp only
  rw [h]
  dsimp only
  unfold ixN
  rw [if_pos h0, if_pos (by omega)]
/-! slices -/
@[simp] theorem cPt_n {s : S} : cPt none s = .ok none s := Eq.trans rfl rfl
def intR : Rv → S → R Int
  | .d (.int i), s => .ok i s
  | _, _ => .bad
@[simp] theorem intR_i {i : Int} {s : S} : intR (.d (.int i)) s = .ok i s := Eq.trans rfl rfl
@[simp] theorem cI_s {c : CE} {s : S} : cI c s = (cv c s).bind intR := by
  unfold cI
  congr 1
  funext a s1
  rcases a with (_ | _ | _ | _ | _ | _ | _) | _ | _ <;> rfl
def kPt (i : Int) (s1 : S) : R (Option Int) := .ok (some i) s1
@[simp] theorem kPt_s {i : Int} {s1 : S} : kPt i s1 = .ok (some i) s1 := Eq.trans rfl rfl
@[simp] theorem cPt_s {c : CE} {s : S} : cPt (some c) s = (cI c s).bind kPt := Eq.trans rfl rfl
def kSl3 (a : Rv) (l u : Option Int) (s3 : S) : R Rv := odK1 (fun o => opSl o l u) (a.od s3.m) s3
@[simp] theorem kSl3_s {a : Rv} {l u : Option Int} {s3 : S} : kSl3 a l u s3 = odK1 (fun o => opSl o l u) (a.od s3.m) s3 := Eq.trans rfl rfl
def kSl2 (hi : S → R (Option Int)) (a : Rv) (l : Option Int) (s2 : S) : R Rv := (hi s2).bind (kSl3 a l)
@[simp] theorem kSl2_s {hi : S → R (Option Int)} {a : Rv} {l : Option Int} {s2 : S} : kSl2 hi a l s2 = (hi s2).bind (kSl3 a l) := Eq.trans rfl rfl
def kSl1 (lo hi : S → R (Option Int)) (a : Rv) (s1 : S) : R Rv := (lo s1).bind (kSl2 hi a)
@[simp] theorem kSl1_s {lo hi : S → R (Option Int)} {a : Rv} {s1 : S} : kSl1 lo hi a s1 = (lo s1).bind (kSl2 hi a) := Eq.trans rfl rfl
@[simp] theorem cSl_s {c : CE} {lo hi : S → R (Option Int)} {s : S} : cSl c lo hi s = (cv c s).bind (kSl1 lo hi) := by
  unfold cSl
  congr 1
  funext a s1
  rw [kSl1_s]
  congr 1
  funext l s2
  rw [kSl2_s]
  congr 1
  funext u s3
  rw [kSl3_s]
  cases a.od s3.m with
  | none => rfl
  | some o => exact opt_rv
@[simp] theorem opSl_l {ds : List D} {lo hi : Option Int} : opSl (.d (.list ds)) lo hi = some (.new (.l (cutD ds lo hi))) := Eq.trans rfl rfl
@[simp] theorem opSl_t {ds : List D} {lo hi : Option Int} : opSl (.d (.tuple ds)) lo hi = some (.d (.tuple (cutD ds lo hi))) := Eq.trans rfl rfl
theorem cutD_to {α : Type} {xs : List α} {k : Int} (h : 0 ≤ k) : cutD xs none (some k) = xs.take k.toNat := by
  unfold cutD HT.sIx
  dsimp only
  rw [if_neg (by omega), List.drop_zero, Nat.sub_zero]
  by_cases hl : k.toNat ≤ xs.length
  · rw [Nat.min_eq_left hl]
  · rw [Nat.min_eq_right (by omega), List.take_length, List.take_of_length_le (by omega)]
/-! dicts -/
def kDisp (ks : List L2.Key) (ds : List D) (s1 : S) : R Rv := .ok (.new (.k (mergeD [] ks ds))) s1
@[simp] theorem kDisp_s {ks : List L2.Key} {ds : List D} {s1 : S} : kDisp ks ds s1 = .ok (.new (.k (mergeD [] ks ds))) s1 := Eq.trans rfl rfl
@[simp] theorem cDisp_s {ks : List L2.Key} {ca : CA} {s : S} : cDisp ks ca s = (ca s).bind (kDisp ks) := Eq.trans rfl rfl
theorem merge_pen {a b c : D} : mergeD [] [.inr "cells", .inr "at", .inr "left"] [a, b, c] = [(.inr "cells", a), (.inr "at", b), (.inr "left", c)] := by
  have h : ((Sum.inr ("cells" : Str) : L2.Key) = Sum.inr ("at" : Str)) = False := eq_false (by decide)
  have h2 : ((Sum.inr ("cells" : Str) : L2.Key) = Sum.inr ("left" : Str)) = False := eq_false (by decide)
  have h3 : ((Sum.inr ("at" : Str) : L2.Key) = Sum.inr ("left" : Str)) = False := eq_false (by decide)
  simp [mergeD, putD, h, h2, h3]
def fPen : Fn := runF 1 (cRet (cDisp [(.inr "cells"), (.inr "at"), (.inr "left")] (cCons (cSl (cVar 0) (cPt none) (cPt (some (cC (.int 63))))) (cCons (cC (.int 0)) (cCons (cC (.int 0)) cNil)))))
theorem pen_new {ns : List Int} (h : ns.length ≤ 63) : fPen [.d (.list (ns.map PyData.int))] [] = .ok (.new (penC ns 0 0)) [] := by
  unfold fPen
  rw [runF_s]
  have e : cutD (ns.map PyData.int) none (some 63) = ns.map PyData.int := by
    rw [cutD_to (by decide)]
    exact List.take_of_length_le (by rw [List.length_map]; exact h)
  simp [e, merge_pen, penC]
theorem pen_is {ns : List Int} (h : ns.length ≤ 63) : IsPen 0 (penC ns 0 0) := ⟨ns, 0, 0, rfl, h, by decide, by decide, by decide⟩
@[simp] theorem setMR_pen {i : Nat} {a : List Int} {b c : Int} {s1 : S} : setMR i (.new (penC a b c)) s1 = .nx ⟨s1.v.set i (.c s1.m.length), s1.m ++ [penC a b c]⟩ := Eq.trans rfl rfl
@[simp] theorem pure_pen {a : List Int} {b c : Int} {m : List Cell} {s : S} : (RF.ok (.new (penC a b c)) m).pure s = .ok (.new (penC a b c)) s := Eq.trans rfl rfl
/-! comprehensions -/
theorem lcL_map {own : List Nat} {v0 : List Sl} {tg : Tg} {tt : CT} {el : CE} {m : List Cell} {p : D → Bool} {g : D → D} : ∀ (ds acc : List D), (∀ d, d ∈ ds → ∃ t, tg d ⟨wipeV v0 own, m⟩ = some t ∧ ∃ t2, tt t = .ok (p d) t2 ∧ (p d = false → t2.m = m) ∧ (p d = true → ∃ v3, cv el t2 = .ok (.d (g d)) ⟨v3, m⟩)) →
    lcL own v0 tg tt el ds acc m = .ok (.new (.l (acc ++ (ds.filter p).map g))) ⟨v0, m⟩
  | [], acc, _ => by
    show R.ok (Rv.new (.l acc)) _ = _
    rw [List.filter_nil, List.map_nil, List.append_nil]
  | d :: ds, acc, h => by
    obtain ⟨t, h1, t2, h2, h3, h4⟩ := h d (List.mem_cons_self ..)
    have ih := lcL_map (own := own) (v0 := v0) (tg := tg) (tt := tt) (el := el) (m := m) (p := p) (g := g) ds
    unfold lcL
    rw [h1]
    dsimp only
    rw [h2]
    show (if p d = true then _ else _) = _
    cases hp : p d with
    | false =>
      rw [if_neg (by decide), h3 hp, ih acc fun x hx => h x (List.mem_cons_of_mem _ hx), List.filter_cons_of_neg (by rw [hp]; decide)]
    | true =>
      obtain ⟨v3, h5⟩ := h4 hp
      rw [if_pos rfl, h5]
      show lcL own v0 tg tt el ds (acc ++ [g d]) m = _
      rw [ih (acc ++ [g d]) fun x hx => h x (List.mem_cons_of_mem _ hx), List.filter_cons_of_pos hp, List.map_cons, List.append_assoc]
      rfl
/-- a comprehension that keeps the cells -/
theorem lc_map {own : List Nat} {ci : CI} {tg : Tg} {tt : CT} {el : CE} {s s1 : S} {ds : List D} (p : D → Bool) (g : D → D) (h : ci s = .ok ds s1) (hl : ds.length ≤ 16000000)
    (hb : ∀ d, d ∈ ds → ∃ t, tg d ⟨wipeV s1.v own, s1.m⟩ = some t ∧ ∃ t2, tt t = .ok (p d) t2 ∧ (p d = false → t2.m = s1.m) ∧ (p d = true → ∃ v3, cv el t2 = .ok (.d (g d)) ⟨v3, s1.m⟩)) :
    cLc own ci tg tt el s = .ok (.new (.l ((ds.filter p).map g))) s1 := by
  unfold cLc
  rw [h, bind_ok, if_pos hl, lcL_map ds [] hb]
  rfl
/-- without an if -/
theorem lc_all {own : List Nat} {ci : CI} {tg : Tg} {el : CE} {s s1 : S} {ds : List D} (g : D → D) (h : ci s = .ok ds s1) (hl : ds.length ≤ 16000000)
    (hb : ∀ d, d ∈ ds → ∃ t, tg d ⟨wipeV s1.v own, s1.m⟩ = some t ∧ ∃ v3, cv el t = .ok (.d (g d)) ⟨v3, s1.m⟩) :
    cLc own ci tg ctYes el s = .ok (.new (.l (ds.map g))) s1 := by
  have := lc_map (own := own) (tt := ctYes) (el := el) (tg := tg) (fun _ => true) g h hl fun d hd => by
    obtain ⟨t, h1, v3, h2⟩ := hb d hd
    exact ⟨t, h1, t, rfl, (fun q => by cases q), fun _ => ⟨v3, h2⟩⟩
  rw [this, List.filter_eq_self.mpr fun _ _ => rfl]
/-- a comprehension that changes the cells: I k acc m -/
theorem lcL_inv {own : List Nat} {v0 : List Sl} {tg : Tg} {tt : CT} {el : CE} (I : Nat → List D → List Cell → Prop) : ∀ (ds : List D) (k : Nat) (acc : List D) (m : List Cell), (∀ i acc m d, ds[i]? = some d → I (k + i) acc m → ∃ t, tg d ⟨wipeV v0 own, m⟩ = some t ∧ ∃ b t2, tt t = .ok b t2 ∧ (b = false → I (k + i + 1) acc t2.m) ∧ (b = true → ∃ x s3, cv el t2 = .ok (.d x) s3 ∧ I (k + i + 1) (acc ++ [x]) s3.m)) →
    I k acc m → ∃ acc' m', lcL own v0 tg tt el ds acc m = .ok (.new (.l acc')) ⟨v0, m'⟩ ∧ I (k + ds.length) acc' m'
  | [], k, acc, m, _, h0 => ⟨acc, m, rfl, h0⟩
  | d :: ds, k, acc, m, h, h0 => by
    obtain ⟨t, h1, b, t2, h2, h3, h4⟩ := h 0 acc m d rfl h0
    have go : ∀ acc2 m2, I (k + 1) acc2 m2 → ∃ acc' m', lcL own v0 tg tt el ds acc2 m2 = .ok (.new (.l acc')) ⟨v0, m'⟩ ∧ I (k + (ds.length + 1)) acc' m' := fun acc2 m2 hi => by
      obtain ⟨a, b, e, q⟩ := lcL_inv I ds (k + 1) acc2 m2 (fun i acc m d hd hi => by
        have := h (i + 1) acc m d (by simpa using hd) (by rw [show k + (i + 1) = k + 1 + i by omega]; exact hi)
        rw [show k + (i + 1) + 1 = k + 1 + i + 1 by omega] at this
        exact this) hi
      exact ⟨a, b, e, by rw [show k + (ds.length + 1) = k + 1 + ds.length by omega]; exact q⟩
    unfold lcL
    rw [h1]
    dsimp only
    rw [h2]
    cases b with
    | false =>
      obtain ⟨a, b, e, q⟩ := go acc t2.m (h3 rfl)
      exact ⟨a, b, e, q⟩
    | true =>
      obtain ⟨x, s3, h5, h6⟩ := h4 rfl
      obtain ⟨a, b, e, q⟩ := go (acc ++ [x]) s3.m h6
      refine ⟨a, b, ?_, q⟩
      show ((cv el t2).nx.bind _) = _
      rw [h5]
      exact e
theorem lc_inv {own : List Nat} {ci : CI} {tg : Tg} {tt : CT} {el : CE} {s s1 : S} {ds : List D} (I : Nat → List D → List Cell → Prop) (h : ci s = .ok ds s1) (hl : ds.length ≤ 16000000) (h0 : I 0 [] s1.m)
    (hb : ∀ i acc m d, ds[i]? = some d → I i acc m → ∃ t, tg d ⟨wipeV s1.v own, m⟩ = some t ∧ ∃ b t2, tt t = .ok b t2 ∧ (b = false → I (i + 1) acc t2.m) ∧ (b = true → ∃ x s3, cv el t2 = .ok (.d x) s3 ∧ I (i + 1) (acc ++ [x]) s3.m)) :
    ∃ acc' m', cLc own ci tg tt el s = .ok (.new (.l acc')) ⟨s1.v, m'⟩ ∧ I ds.length acc' m' := by
  obtain ⟨a, b, e, q⟩ := lcL_inv (own := own) (v0 := s1.v) (tg := tg) (tt := tt) (el := el) I ds 0 [] s1.m (fun i acc m d hd hi => by
    rw [Nat.zero_add] at hi ⊢
    exact hb i acc m d hd hi) h0
  rw [Nat.zero_add] at q
  refine ⟨a, b, ?_, q⟩
  unfold cLc
  rw [h, bind_ok, if_pos hl]
  exact e
@[simp] theorem ctYes_s {s : S} : ctYes s = .ok true s := Eq.trans rfl rfl
/-! two names at once -/
def parR (i j : Nat) (x y : Rv) (s2 : S) : Out := match slOf x, slOf y with
  | some p, some q => .nx ⟨(s2.v.set i p).set j q, s2.m⟩
  | _, _ => .bad
@[simp] theorem parR_d {i j : Nat} {x y : D} {s : S} : parR i j (.d x) (.d y) s = .nx ⟨(s.v.set i (.d x)).set j (.d y), s.m⟩ := Eq.trans rfl rfl
def kPar (i j : Nat) (b : CE) (x : Rv) (s1 : S) : Out := (cv b s1).out (parR i j x)
@[simp] theorem kPar_s {i j : Nat} {b : CE} {x : Rv} {s1 : S} : kPar i j b x s1 = (cv b s1).out (parR i j x) := Eq.trans rfl rfl
@[simp] theorem cPar_s {i j : Nat} {a b : CE} {s : S} : cPar i j a b s = (cv a s).out (kPar i j b) := Eq.trans rfl rfl
theorem ciR1_c {n : Int} {s : S} (hn : -4611686018427387904 ≤ n) (hn2 : n < 4611686018427387904) : ciR1 (cC (.int n)) s = .ok (rangeD 0 n.toNat) s := ciR1_s rfl hn hn2
/-! while -/
theorem whL_s {t : CT} {b : CS} {n : Nat} {s : S} : whL t b (n + 1) s = (t s).out fun x s1 => if x = true then (b s1).loop (whL t b n) else .nx s1 := by
  show (t s).out _ = _
  congr 1
/-- a while loop: the variant falls, the invariant stays -/
theorem whL_inv {t : CT} {b : CS} (I : Nat → S → Prop) (Q : S → Prop) (h : ∀ k s, I k s → (∃ s1, t s = .ok false s1 ∧ Q s1) ∨ ∃ s1 s2 j, t s = .ok true s1 ∧ (b s1 = .nx s2 ∨ b s1 = .ct s2) ∧ j < k ∧ I j s2) : ∀ (n k : Nat) (s : S), k < n → I k s → ∃ s', whL t b n s = .nx s' ∧ Q s'
  | 0, k, s, hn, _ => by omega
  | n + 1, k, s, hn, hi => by
    rw [whL_s]
    rcases h k s hi with ⟨s1, e, q⟩ | ⟨s1, s2, j, e, e2, hj, q⟩
    · refine ⟨s1, ?_, q⟩
      rw [e]
      rfl
    · rw [e]
      obtain ⟨s', e3, q'⟩ := whL_inv I Q h n j s2 (by omega) q
      refine ⟨s', ?_, q'⟩
      rcases e2 with e2 | e2 <;> (show ((b s1).loop _) = _; rw [e2]; exact e3)
end Vm
namespace Vm
open PySem L2 PySem.Spec PyProof.Rows
/-! ### repr -/
def okr (d : D) : Bool := okd d && d.showable && decide (d.shown.length ≤ 16000000)
mutual
def noLs : D → Bool
  | .none | .bool _ | .int _ | .str _ => true
  | .list _ => false
  | .tuple xs => noLsAll xs
  | .dict es => noLsKv es
def noLsAll : List D → Bool
  | [] => true
  | x :: xs => noLs x && noLsAll xs
def noLsKv : List (D × D) → Bool
  | [] => true
  | (k, v) :: r => noLs k && noLs v && noLsKv r
end
def okrN (d : D) : Bool := noLs d && decide (d.depth ≤ 60) && d.showable && decide (d.shown.length ≤ 16000000)
def opRepr : Od → Option Rv
  | .d d => if okr d = true ∨ okrN d = true then some (.d (.str d.shown)) else none
  | _ => none
/-! ### in, not in, of a list, a tuple -/
def inB (d : D) (xs : List D) : Option Bool := if okd d = true ∧ okd (.list xs) = true then some (xs.any fun y => PyData.eqv y d) else none
/-! ### max, min of a list, a tuple of ints -/
def maxI : List Int → Option Int
  | [] => none
  | n :: ns => some (ns.foldl max n)
def minI : List Int → Option Int
  | [] => none
  | n :: ns => some (ns.foldl min n)
theorem alike_ints {ns : List Int} : PySem.W.AlikeAll (ns.map PyData.int) := by
  refine ⟨fun x hx y hy => ?_, fun x hx => ?_⟩
  · obtain ⟨i, _, rfl⟩ := List.mem_map.mp hx
    obtain ⟨j, _, rfl⟩ := List.mem_map.mp hy
    rfl
  · obtain ⟨i, _, rfl⟩ := List.mem_map.mp hx
    exact nofun
def rBest (K : Fg) (f : List Int → Option Int) : V → Hp → VK → Prop := fun v H Q => ∃ (a : Addr) (ns : List Int) (m : Int), v = V.ref a ∧ (SqL K H a (ns.map V.int) ∨ SqT K H a (ns.map V.int)) ∧ f ns = some m ∧ Q (.int m) H
theorem readsInts {h : Heap} {its : List Value} {ns : List Int} (hi : IntsAre its ns) : ∃ as, ReadsAll h its (ns.map PyData.int) as := by
  induction hi with
  | nil => exact ⟨_, .nil⟩
  | cons n t r ih =>
    obtain ⟨as, r⟩ := ih
    exact ⟨_, .cons (.int _ _) r⟩
theorem foldl_min_le : ∀ (ns : List Int) (n : Int), ns.foldl min n ≤ n ∧ ∀ m, m ∈ ns → ns.foldl min n ≤ m
  | [], n => ⟨Int.le_refl _, fun m h => nomatch h⟩
  | k :: ks, n => by
    obtain ⟨h1, h2⟩ := foldl_min_le ks (min n k)
    refine ⟨Int.le_trans h1 (Int.min_le_left _ _), fun m hm => ?_⟩
    rcases List.mem_cons.mp hm with rfl | hm
    · exact Int.le_trans h1 (Int.min_le_right _ _)
    · exact h2 m hm
theorem foldl_min_mem : ∀ (ns : List Int) (n : Int), ns.foldl min n = n ∨ ns.foldl min n ∈ ns
  | [], n => .inl rfl
  | k :: ks, n => by
    rcases foldl_min_mem ks (min n k) with h | h
    · by_cases hk : n ≤ k
      · exact .inl (h.trans (Int.min_eq_left hk))
      · refine .inr ?_
        show ks.foldl min (min n k) ∈ k :: ks
        rw [h, Int.min_eq_right (by omega)]
        exact List.mem_cons_self ..
    · exact .inr (List.mem_cons_of_mem _ h)
theorem minI_is {ns : List Int} {m : Int} (h1 : m ∈ ns) (h2 : ∀ y, y ∈ ns → m ≤ y) : minI ns = some m := by
  cases ns with
  | nil => cases h1
  | cons n ns =>
    show some (ns.foldl min n) = some m
    obtain ⟨a, b⟩ := foldl_min_le ns n
    have c : ns.foldl min n ≤ m := by
      rcases List.mem_cons.mp h1 with rfl | h1
      · exact a
      · exact b m h1
    have d : m ≤ ns.foldl min n := by
      rcases foldl_min_mem ns n with e | e
      · rw [e]
        exact h2 n (List.mem_cons_self ..)
      · exact h2 _ (List.mem_cons_of_mem _ e)
    rw [Int.le_antisymm d c]
section
variable {X : Cx}
theorem call_minV {k : Nat} (hr : Rg k X.A) (hc : X.calm = true) : CallR X (.builtin "min") (fun xs H Q => ∃ x, xs = [x] ∧ rBest X.K minI x H Q) := by
  intro pins s σ H xs us Q I r h
  obtain ⟨x, rfl, a, ns, m, rfl, hs | hs, hm, q⟩ := h
  · exact cr_min hc pins s σ H _ us Q I r ⟨a, ns, rfl, hs, by cases ns with | nil => cases hm | cons _ _ => exact Nat.succ_pos _, fun m' h1 h2 => by
      rw [minI_is h1 h2] at hm
      cases hm
      exact q⟩
  · obtain ⟨its, rv, hl, _⟩ := I.tuple hs
    rw [Vals.ref1 r]
    cases ns with
    | nil => cases hm
    | cons n ns =>
      cases hm
      obtain ⟨as, ra⟩ := readsInts (h := s.heap) rv.ints
      have hu := hr.units
      refine PySem.W.min_tuple_data (I.ok.hd hc) hl ra (alike_ints (ns := n :: ns)) ?_ fun i v h' tk bs hv hb hk => ?_
      · show X.A.units + 1 + PyData.depthAll (List.map PyData.int (n :: ns)) < cLine
        rw [PySem.W.depth_ints]
        omega
      · have e : PySem.W.minD (.int n) (ns.map .int) = .int (ns.foldl min n) := PySem.W.minD_ints n ns
        rw [e] at hb
        cases hb
        exact ⟨.int _, H, I.kept hk, ⟨_, rfl⟩, q⟩
end
def opBest (f : List Int → Option Int) : Od → Option Rv
  | .d (.list ds) => (ints? ds).bind fun ns => (f ns).bind fun m => some (.d (.int m))
  | .d (.tuple ds) => (ints? ds).bind fun ns => (f ns).bind fun m => some (.d (.int m))
  | _ => none
def opMax : Od → Option Rv := opBest maxI
def opMin : Od → Option Rv := opBest minI
theorem s_best {K : Fg} {f : List Int → Option Int} : Op1S K (fun v H Q => ∃ x, [v] = [x] ∧ rBest K f x H Q) (opBest f) := by
  intro w x o rv Q hx h e q
  unfold opBest at e
  split at e
  · obtain ⟨ns, e1, e2⟩ := Option.bind_eq_some_iff.mp e
    obtain ⟨m, e3, e4⟩ := Option.bind_eq_some_iff.mp e2
    cases e4
    rw [ints?_eq e1] at h
    obtain ⟨p, vs, rfl, hs, ra⟩ := h.list hx
    rw [rp_ints ra] at hs
    exact ⟨_, rfl, p, ns, m, rfl, .inl hs, e3, post_int q⟩
  · obtain ⟨ns, e1, e2⟩ := Option.bind_eq_some_iff.mp e
    obtain ⟨m, e3, e4⟩ := Option.bind_eq_some_iff.mp e2
    cases e4
    rw [ints?_eq e1] at h
    obtain ⟨p, vs, rfl, hs, ra⟩ := h.tup
    rw [rp_ints ra] at hs
    exact ⟨_, rfl, p, ns, m, rfl, .inr (SqT.of (hx _ _ hs)), e3, post_int q⟩
  · cases e
theorem s_min {K : Fg} : Op1S K (fun v H Q => ∃ x, [v] = [x] ∧ rBest K minI x H Q) opMin := s_best
/-! ### sorted(xs, reverse=True), ints -/
def insD (i : Int) : List Int → List Int
  | [] => [i]
  | j :: js => if j ≤ i then i :: j :: js else j :: insD i js
def sortD : List Int → List Int
  | [] => []
  | i :: is => insD i (sortD is)
theorem insD_perm (i : Int) : ∀ js : List Int, (insD i js).Perm (i :: js)
  | [] => .refl _
  | j :: js => by
    unfold insD
    split
    · exact .refl _
    · exact (List.Perm.cons j (insD_perm i js)).trans (List.Perm.swap i j js)
theorem sortD_perm : ∀ js : List Int, (sortD js).Perm js
  | [] => .refl _
  | j :: js => (insD_perm j _).trans (List.Perm.cons j (sortD_perm js))
theorem insD_pw (i : Int) : ∀ js : List Int, js.Pairwise (· ≥ ·) → (insD i js).Pairwise (· ≥ ·)
  | [], _ => by
    show [i].Pairwise _
    simp
  | j :: js, h => by
    have h2 := List.pairwise_cons.mp h
    unfold insD
    split
    · refine List.pairwise_cons.mpr ⟨fun k hk => ?_, h⟩
      rcases List.mem_cons.mp hk with rfl | hk
      · assumption
      · have := h2.1 k hk
        show k ≤ i
        have : k ≤ j := this
        omega
    · refine List.pairwise_cons.mpr ⟨fun k hk => ?_, insD_pw i js h2.2⟩
      have := (insD_perm i js).mem_iff.mp hk
      rcases List.mem_cons.mp this with rfl | hk
      · show k ≤ j
        omega
      · exact h2.1 k hk
theorem sortD_pw : ∀ js : List Int, (sortD js).Pairwise (· ≥ ·)
  | [] => List.Pairwise.nil
  | j :: js => insD_pw j _ (sortD_pw js)
theorem sorted_one {as bs : List Int} (h : as.Perm bs) (ha : as.Pairwise (· ≥ ·)) (hb : bs.Pairwise (· ≥ ·)) : as = bs :=
  h.eq_of_pairwise (fun a b _ _ h1 h2 => Int.le_antisymm h2 h1) ha hb
def opSortedR : Od → Option Rv
  | .d (.list ds) => (ints? ds).bind fun ns => some (.new (.l ((sortD ns).map PyData.int)))
  | _ => none
theorem s_sortedR {K : Fg} : Op1S K (fun v H Q => rSortedKw K true [.bl true] [v] [.bl true] H Q) opSortedR := by
  intro w x o rv Q hx h e q
  unfold opSortedR at e
  split at e
  · obtain ⟨ns, e1, e2⟩ := Option.bind_eq_some_iff.mp e
    cases e2
    rw [ints?_eq e1] at h
    obtain ⟨p, vs, rfl, hs, ra⟩ := h.list hx
    rw [rp_ints ra] at hs
    refine ⟨p, ns, rfl, rfl, hs, fun ns' l h1 h2 hl => ?_⟩
    have e3 : ns' = sortD ns := sorted_one (h1.trans (sortD_perm ns).symm) h2 (sortD_pw ns)
    rw [e3]
    exact post_lst q (rpAll_ints _) hl hx
  · cases e
section
variable {X : Cx} {ec : EC} {W : WX}
theorem e_sortedR {a : Expr} {ca : CE} {p pos kp bp : Pos} {j : Nat} (hm : X.mg "sorted" = none) (ha : Ex X ec W a ca) (hg : Gl X "sorted" := by rfl) (h1 : starEach [a] X.env = (false, eval a X.env) :: starEach [] X.env := by rfl) 
    (he : backTo pos (starEach [a] X.env) = (false, eval a X.env) :: backTo pos (starEach [] X.env) := by rfl) (hpl : (backTo pos (starEach [a] X.env)).any (·.1) = false := by rfl) : Ex X ec W (.Call (.Name "sorted" p) [a] [⟨some "reverse", .Constant (.bool true) j bp, kp⟩] pos) (cOp1 opSortedR ca) :=
  (pe_callBK (cr_sortedRev (b := true)) hg hm (by decide +kernel) (pa_cons ha pa_nil h1) (pk_cons pe_bl pk_nil) (by decide) (by decide) he hpl).imp fun _ _ _ h => op1 s_sortedR h
end
end Vm
namespace Vm
open PySem L2
/-! ### the second draw -/
/-! ### lists and tuples of ints -/
theorem plain_ints : ∀ ns : List Int, PyData.plainAll (ns.map PyData.int) = true
  | [] => rfl
  | n :: ns => by
    show PyData.plainAll (.int n :: ns.map PyData.int) = true
    rw [PyData.plainAll, plain_ints ns]
    rfl
theorem okd_intsL (ns : List Int) : okd (.list (ns.map PyData.int)) = true := by
  unfold okd
  rw [Bool.and_eq_true, decide_eq_true_eq]
  refine ⟨by rw [PyData.plain]; exact plain_ints ns, ?_⟩
  show PyData.depthAll (ns.map PyData.int) + 1 ≤ 60
  rw [PySem.W.depth_ints]
  omega
theorem okd_intsT (ns : List Int) : okd (.tuple (ns.map PyData.int)) = true := by
  unfold okd
  rw [Bool.and_eq_true, decide_eq_true_eq]
  refine ⟨by rw [PyData.plain]; exact plain_ints ns, ?_⟩
  show PyData.depthAll (ns.map PyData.int) + 1 ≤ 60
  rw [PySem.W.depth_ints]
  omega
theorem eqv_ints : ∀ as bs : List Int, PyData.eqvAll (as.map PyData.int) (bs.map PyData.int) = decide (as = bs)
  | [], [] => rfl
  | [], b :: bs => rfl
  | a :: as, [] => rfl
  | a :: as, b :: bs => by
    show PyData.eqvAll (.int a :: as.map PyData.int) (.int b :: bs.map PyData.int) = _
    rw [PyData.eqvAll, eqv_ints as bs]
    show ((a == b) && decide (as = bs)) = _
    by_cases h : a = b
    · subst h
      by_cases h2 : as = bs
      · simp [h2]
      · simp [h2]
    · simp [h]
theorem opNe_intsL {as bs : List Int} : opNe (.d (.list (as.map PyData.int))) (.d (.list (bs.map PyData.int))) = some (.d (.bool (!decide (as = bs)))) := by
  unfold opNe eqB
  dsimp only
  rw [if_pos ⟨okd_intsL as, okd_intsL bs⟩, show PyData.eqv (.list (as.map PyData.int)) (.list (bs.map PyData.int)) = _ from by rw [PyData.eqv], eqv_ints]
theorem opEq_intsL {as bs : List Int} : opEq (.d (.list (as.map PyData.int))) (.d (.list (bs.map PyData.int))) = some (.d (.bool (decide (as = bs)))) := by
  unfold opEq eqB
  dsimp only
  rw [if_pos ⟨okd_intsL as, okd_intsL bs⟩, show PyData.eqv (.list (as.map PyData.int)) (.list (bs.map PyData.int)) = _ from by rw [PyData.eqv], eqv_ints]
theorem opNe_intsT {as bs : List Int} : opNe (.d (.tuple (as.map PyData.int))) (.d (.tuple (bs.map PyData.int))) = some (.d (.bool (!decide (as = bs)))) := by
  unfold opNe eqB
  dsimp only
  rw [if_pos ⟨okd_intsT as, okd_intsT bs⟩, show PyData.eqv (.tuple (as.map PyData.int)) (.tuple (bs.map PyData.int)) = _ from by rw [PyData.eqv], eqv_ints]
def rangeI (lo : Int) : Nat → List Int
  | 0 => []
  | n + 1 => lo :: rangeI (lo + 1) n
theorem rangeD_eq : ∀ (n : Nat) (lo : Int), rangeD lo n = (rangeI lo n).map PyData.int
  | 0, lo => rfl
  | n + 1, lo => congrArg (PyData.int lo :: ·) (rangeD_eq n (lo + 1))
@[simp] theorem opSum_il {ns : List Int} : opSum (.d (.list (ns.map PyData.int))) = some (.d (.int ns.sum)) := by
  unfold opSum
  dsimp only
  rw [ints?_map]
@[simp] theorem opSum_it {ns : List Int} : opSum (.d (.tuple (ns.map PyData.int))) = some (.d (.int ns.sum)) := by
  unfold opSum
  dsimp only
  rw [ints?_map]
@[simp] theorem opTuple_l {ds : List D} : opTuple (.d (.list ds)) = some (.d (.tuple ds)) := Eq.trans rfl rfl
@[simp] theorem opTuple_t {ds : List D} : opTuple (.d (.tuple ds)) = some (.d (.tuple ds)) := Eq.trans rfl rfl
@[simp] theorem opList_l {ds : List D} : opList (.d (.list ds)) = some (.new (.l ds)) := Eq.trans rfl rfl
@[simp] theorem opList_t {ds : List D} : opList (.d (.tuple ds)) = some (.new (.l ds)) := Eq.trans rfl rfl
@[simp] theorem opMax_l {ns : List Int} : opMax (.d (.list (ns.map PyData.int))) = (maxI ns).bind fun m => some (.d (.int m)) := by
  unfold opMax opBest
  dsimp only
  rw [ints?_map]
  rfl
@[simp] theorem opMax_t {ns : List Int} : opMax (.d (.tuple (ns.map PyData.int))) = (maxI ns).bind fun m => some (.d (.int m)) := by
  unfold opMax opBest
  dsimp only
  rw [ints?_map]
  rfl
@[simp] theorem opMin_l {ns : List Int} : opMin (.d (.list (ns.map PyData.int))) = (minI ns).bind fun m => some (.d (.int m)) := by
  unfold opMin opBest
  dsimp only
  rw [ints?_map]
  rfl
@[simp] theorem opMin_t {ns : List Int} : opMin (.d (.tuple (ns.map PyData.int))) = (minI ns).bind fun m => some (.d (.int m)) := by
  unfold opMin opBest
  dsimp only
  rw [ints?_map]
  rfl
@[simp] theorem opIsi_d {T : String} {d : D} : opIsi T (.d d) = some (.d (.bool (isiB T (tyN (.d d))))) := Eq.trans rfl rfl
@[simp] theorem opMin2_i {i j : Int} : opMin2 (.d (.int i)) (.d (.int j)) = some (.d (.int (if j < i then j else i))) := Eq.trans rfl rfl
@[simp] theorem opMax2_i {i j : Int} : opMax2 (.d (.int i)) (.d (.int j)) = some (.d (.int (if j > i then j else i))) := Eq.trans rfl rfl
/-- what stands at the end of the cells -/
@[simp] theorem set_last {g : List Cell} {c c' : Cell} : (g ++ [c]).set g.length c' = g ++ [c'] := by
  rw [List.set_append_right _ _ (Nat.le_refl _), Nat.sub_self]
  rfl
theorem fin_cell {m : List Cell} {k : Nat} {s : S} {c : Cell} (h : m.length ≤ k) (h2 : s.m[k]? = some c) (h3 : c ≠ .gone) : fin m (.rt (.ref k) s) = .ok (.new c) (s.m.take m.length) := by
  show (if m.length ≤ k then _ else _) = _
  rw [if_pos h, h2]
  cases c with
  | gone => exact absurd rfl h3
  | l _ => rfl
  | k _ => rfl
  | t _ => rfl
  | r _ => rfl
  | i _ _ _ => rfl
  | g _ => rfl
@[simp] theorem fin_l {m : List Cell} {k : Nat} {s : S} {ds : List D} (h : m.length ≤ k) (h2 : s.m[k]? = some (.l ds)) : fin m (.rt (.ref k) s) = .ok (.new (.l ds)) (s.m.take m.length) := fin_cell h h2 nofun
end Vm
namespace Vm
open PySem L2
/-! ### how many bits -/
def Bs (k : Nat) (x : Int) : Prop := x.natAbs < 2 ^ k
theorem Bs.mono {j k : Nat} {x : Int} (h : Bs j x) (q : j ≤ k) : Bs k x := Nat.lt_of_lt_of_le h (Nat.pow_le_pow_right (by decide) q)
theorem Bs.le {k : Nat} {x y : Int} (h : Bs k y) (q : x.natAbs ≤ y.natAbs) : Bs k x := Nat.lt_of_le_of_lt q h
theorem Bs.log {k : Nat} {x : Int} (h : Bs k x) : x.natAbs.log2 < k + 1 := log2_lt h
/-! ### the greatest common measure -/
def cMeasure : CS := (cSeq (cWh (fun _ => 1000000) (cB (cOp2 opGt (cVar 1) (cC (.int 0))))
 (cPar 0 1 (cVar 1) (cOp2 opMod (cVar 0) (cVar 1))))
 (cRet (cVar 0)))
def fMeasure : Fn := runF 2 cMeasure
theorem two_mod {x y : Nat} (h0 : 0 < y) (h : y ≤ x) : 2 * (x % y) < x := by
  have h1 := Nat.mod_lt x h0
  have h2 := Nat.div_add_mod x y
  have h3 : 1 ≤ x / y := Nat.div_pos h h0
  have h4 : y * 1 ≤ y * (x / y) := Nat.mul_le_mul_left y h3
  omega
theorem measure_ok {a b k : Nat} (hb : b < 2 ^ k) (hk : k < 400000) : fMeasure [.d (.int a), .d (.int b)] [] = .ok (.d (.int (Nat.gcd a b : Nat))) [] := by
  obtain ⟨s', e, q⟩ := whL_inv (t := cB (cOp2 opGt (cVar 1) (cC (.int 0)))) (b := cPar 0 1 (cVar 1) (cOp2 opMod (cVar 0) (cVar 1)))
    (fun k s => ∃ x y j : Nat, s = ⟨[.d (.int x), .d (.int y)], []⟩ ∧ Nat.gcd x y = Nat.gcd a b ∧ ((k = 2 * j ∧ y < 2 ^ j) ∨ (k + 1 = 2 * j ∧ y < x ∧ x < 2 ^ j)))
    (fun s => s = ⟨[.d (.int (Nat.gcd a b : Nat)), .d (.int 0)], []⟩) (fun k s hi => by
      obtain ⟨x, y, j, rfl, hg, hc⟩ := hi
      by_cases hy : y = 0
      · subst hy
        refine .inl ⟨⟨[.d (.int x), .d (.int 0)], []⟩, by simp, ?_⟩
        rw [Nat.gcd_zero_right] at hg
        rw [hg]
      · have hy0 : 0 < y := Nat.pos_of_ne_zero hy
        have hyI : (0 : Int) < (y : Int) := by omega
        have hm := Nat.mod_lt x hy0
        have om : opMod (.d (.int x)) (.d (.int y)) = some (.d (.int ((x % y : Nat) : Int))) := opMod_i hyI
        have hgcd : Nat.gcd y (x % y) = Nat.gcd a b := by
          rw [← hg, Nat.gcd_comm x y, Nat.gcd_rec y x, Nat.gcd_comm]
        suffices hh : ∃ k', k' < k ∧ ∃ j : Nat, ((k' = 2 * j ∧ x % y < 2 ^ j) ∨ (k' + 1 = 2 * j ∧ x % y < y ∧ y < 2 ^ j)) by
          obtain ⟨k', hk', j', hj⟩ := hh
          exact .inr ⟨⟨[.d (.int x), .d (.int y)], []⟩, ⟨[.d (.int y), .d (.int ((x % y : Nat) : Int))], []⟩, k', by simp [hy0], .inl (by simp [om]), hk', ⟨y, x % y, j', rfl, hgcd, hj⟩⟩
        rcases hc with ⟨hk, hlt⟩ | ⟨hk, hlt, hx⟩
        · have hj : j ≠ 0 := fun z => by
            rw [z] at hlt
            have : (2 : Nat) ^ 0 = 1 := rfl
            omega
          exact ⟨2 * j - 1, by omega, j, .inr ⟨by omega, hm, hlt⟩⟩
        · have h2 := two_mod hy0 (Nat.le_of_lt hlt)
          have hj : j = j - 1 + 1 := by omega
          rw [hj, Nat.pow_succ] at hx
          exact ⟨2 * (j - 1), by omega, j - 1, .inl ⟨rfl, by omega⟩⟩) 1000000 (2 * k) ⟨[.d (.int a), .d (.int b)], []⟩ (by omega) ⟨a, b, k, rfl, rfl, .inl ⟨rfl, hb⟩⟩
  unfold fMeasure
  rw [runF_s]
  show fin [] (cSeq _ _ _) = _
  rw [cSeq_s]
  show fin [] ((whL _ _ 1000000 ⟨[.d (.int a), .d (.int b)], []⟩).then _) = _
  rw [e, q]
  simp
/-! ### shares -/
def shD (p q : Int) : D := .tuple [.int p, .int q]
@[simp] theorem cRaise_s {n : String} {s : S} : cRaise n s = .ex n s := rfl
/-- in lowest terms, of so many bits -/
structure Sh (k : Nat) (p q : Int) : Prop where
  pos : 1 ≤ q
  cop : Int.gcd p q = 1
  bp : Bs k p
  bq : Bs k q
theorem abs_nat (x : Int) : (if x < 0 then -x else x) = ((x.natAbs : Nat) : Int) := by
  split <;> omega
theorem gcd_pos {a b : Int} (h : b ≠ 0) : 0 < Int.gcd a b := Int.gcd_pos_iff.mpr (.inr h)
theorem cop_dvd {a b c : Int} (h : a ∣ b * c) (g : Int.gcd a b = 1) : a ∣ c := by
  have h1 : a.natAbs ∣ b.natAbs * c.natAbs := by
    rw [← Int.natAbs_mul]
    exact Int.natAbs_dvd_natAbs.mpr h
  exact Int.natAbs_dvd_natAbs.mp (Nat.Coprime.dvd_of_dvd_mul_left g h1)
/-- shares that stand for the same are the same -/
theorem low_one {p q p' q' : Int} (h : 1 ≤ q) (h' : 1 ≤ q') (c : Int.gcd p q = 1) (c' : Int.gcd p' q' = 1) (e : p * q' = p' * q) : p = p' ∧ q = q' := by
  have d1 : q ∣ q' := by
    have : q ∣ p * q' := ⟨p', by rw [e, Int.mul_comm]⟩
    exact cop_dvd this (by rw [Int.gcd_comm]; exact c)
  have d2 : q' ∣ q := by
    have : q' ∣ p' * q := ⟨p, by rw [← e, Int.mul_comm]⟩
    exact cop_dvd this (by rw [Int.gcd_comm]; exact c')
  have hq : q = q' := Int.le_antisymm (Int.le_of_dvd (by omega) d1) (Int.le_of_dvd (by omega) d2)
  subst hq
  exact ⟨Int.eq_of_mul_eq_mul_right (by omega) e, rfl⟩
end Vm
namespace Vm
open PySem L2
@[simp] theorem sh_0 {p q : Int} : opIx (.d (shD p q)) (.d (.int 0)) = some (.d (.int p)) := rfl
@[simp] theorem sh_1 {p q : Int} : opIx (.d (shD p q)) (.d (.int 1)) = some (.d (.int q)) := rfl
section
variable {j k : Nat} {p1 q1 p2 q2 : Int}
theorem Sh.mono (h : Sh j p1 q1) (hk : j ≤ k) : Sh k p1 q1 := ⟨h.pos, h.cop, h.bp.mono hk, h.bq.mono hk⟩
end
theorem abs_s {x : Int} : opAbs (.d (.int x)) = some (.d (.int (x.natAbs : Nat))) := by rw [opAbs_i, abs_nat]
/-- the law's reduced -/
def cReduced : CS :=
 (cSeq (cSet 2 (cCallP fMeasure (lCons (cOp1 opAbs (cVar 0)) (lCons (cVar 1) lNil))))
 (cRet (cTup (cCons (cOp2 opDiv (cVar 0) (cVar 2)) (cCons (cOp2 opDiv (cVar 1) (cVar 2)) cNil)))))
def fReduced : Fn := runF 3 cReduced
theorem reduced_ok {top bot : Int} {j k : Nat} (hb : 1 ≤ bot) (ht : Bs j top) (hk : Bs k bot) (hk2 : k ≤ 8900) :
    ∃ p q, fReduced [.d (.int top), .d (.int bot)] [] = .ok (.d (shD p q)) [] ∧ Sh (max j k) p q ∧ p * bot = top * q := by
  have hb0 : bot ≠ 0 := by omega
  have hg := gcd_pos (a := top) hb0
  obtain ⟨g, hgd⟩ : ∃ g : Nat, g = Int.gcd top bot := ⟨_, rfl⟩
  rw [← hgd] at hg
  obtain ⟨t, ht'⟩ : (g : Int) ∣ top := by rw [hgd]; exact Int.gcd_dvd_left ..
  obtain ⟨u, hu'⟩ : (g : Int) ∣ bot := by rw [hgd]; exact Int.gcd_dvd_right ..
  have hg0 : (0 : Int) < g := by omega
  have hgn : (g : Int) ≠ 0 := by omega
  have e := measure_ok (a := top.natAbs) (b := bot.natAbs) (k := k) hk (by omega)
  have hgg : Nat.gcd top.natAbs bot.natAbs = g := hgd.symm
  rw [hgg, show ((bot.natAbs : Nat) : Int) = bot by omega] at e
  have cop : Int.gcd t u = 1 := by
    have h1 : Int.gcd top bot = g * Int.gcd t u := by
      rw [ht', hu', Int.gcd_mul_left]
      rfl
    rw [← hgd] at h1
    exact Nat.eq_of_mul_eq_mul_left hg (by rw [← h1, Nat.mul_one])
  have hlt : (g : Int).natAbs.log2 < 9000 := by
    have hb1 : Bs k (g : Int) := hk.le (by
      show g ≤ bot.natAbs
      exact Nat.le_of_dvd (Int.natAbs_pos.mpr hb0) (by rw [hgd]; exact Int.natAbs_dvd_natAbs.mpr (Int.gcd_dvd_right ..)))
    have := hb1.log
    omega
  have hat : t.natAbs ≤ top.natAbs := by
    rw [ht', Int.natAbs_mul]
    exact Nat.le_mul_of_pos_left _ hg
  have hau : u.natAbs ≤ bot.natAbs := by
    rw [hu', Int.natAbs_mul]
    exact Nat.le_mul_of_pos_left _ hg
  have d1 : opDiv (.d (.int top)) (.d (.int g)) = some (.d (.int t)) := by
    rw [opDiv_i hg0 hlt, ht', Int.mul_ediv_cancel_left _ hgn]
  have d2 : opDiv (.d (.int bot)) (.d (.int g)) = some (.d (.int u)) := by
    rw [opDiv_i hg0 hlt, hu', Int.mul_ediv_cancel_left _ hgn]
  have hup : 0 < u := by
    rcases Int.lt_trichotomy u 0 with h | h | h
    · have := Int.mul_neg_of_pos_of_neg hg0 h
      omega
    · rw [h, Int.mul_zero] at hu'
      omega
    · exact h
  refine ⟨t, u, ?_, ⟨by omega, cop, (ht.le hat).mono (Nat.le_max_left ..), (hk.le hau).mono (Nat.le_max_right ..)⟩, ?_⟩
  · unfold fReduced
    rw [runF_s]
    simp [-opAbs_i, cReduced, abs_s, e, d1, d2, shD]
  · rw [ht', hu']
    rw [Int.mul_left_comm, Int.mul_assoc]
/-- the law's look at a share that was told -/
def fWhole : Fn := runF 1 (cRet (cAnd (cOp1 (opIsi "int") (cVar 0)) (cNot (cOp1 (opIsi "bool") (cVar 0)))))
@[simp] theorem isiB_tt : isiB "tuple" "tuple" = true := rfl
end Vm
namespace Vm
open PySem L2 PySem.Spec PyProof.Rows
/-! ### methods that change nothing, of one argument -/
def tyO (T : String) : Od → Bool
  | .d (.list _) => T == "list"
  | .d (.str _) => T == "str"
  | .c (.k _) => T == "dict"
  | _ => false
def cMt1 (T : String) (f : Od → Od → Option Rv) (co c : CE) : CE := fun s => (cv co s).bind fun x s1 => opt (x.od s1.m) fun o1 => if tyO T o1 = true then (cv c s1).bind fun y s2 => opt (x.od s2.m) fun o => opt (y.od s2.m) fun o' => opt (f o o') fun rv => .ok rv s2 else .bad
section
variable {X : Cx} {ec : EC} {W : WX}
theorem tyO_ok {K : Fg} {w : Wd} {T : String} {x : V} {o : Od} (hx : Same w.G w.H) (h : OdOk K w x o) (e : tyO T o = true) : tyV K T x w.H := by
  unfold tyO at e
  split at e
  · obtain ⟨p, vs, rfl, hs, ra⟩ := h.list hx
    exact .inl ⟨beq_iff_eq.mp e, vs, hs⟩
  · rw [h.str]
    exact beq_iff_eq.mp e
  · obtain ⟨p, rfl, hc, _⟩ := h
    obtain ⟨_, ws, hw, _⟩ := hc
    exact .inr (.inr (.inl ⟨beq_iff_eq.mp e, .inl ⟨ws, hw⟩⟩))
  · cases e
theorem e_mt1 {T : String} {m : Str} {r : V → List V → Hp → VK → Prop} {f : Od → Od → Option Rv} {o e : Expr} {apos cpos : Pos} {co c : CE} (hs : Op2S X.K (fun x y => r x [y]) f) (ho : Ex X ec W o co) (ha : Ex X ec W e c) (h1 : starEach [e] X.env = (false, eval e X.env) :: starEach [] X.env)
    (hpe : ∀ {to : TE} {t : TA}, PE X o to → PA X [e] t → PE X (.Call (.Attribute o m apos) [e] [] cpos) (tBM X.K T r to t)) : Ex X ec W (.Call (.Attribute o m apos) [e] [] cpos) (cMt1 T f co c) :=
  (hpe ho (pa_cons ha pa_nil h1)).imp fun σ H Q h => by
    obtain ⟨w, s, rfl, hr, h⟩ := h
    refine run_cv hr h fun x w1 s1 a le1 hr1 ha hn h1 => ?_
    obtain ⟨o1, e1, h2⟩ := h1.opt
    by_cases ht : tyO T o1 = true
    · rw [if_pos ht] at h2
      refine ⟨tyO_ok hr1.mem.ext (od_of hr1 ha e1) ht, ?_⟩
      refine run_cv hr1 (Res.mono h2 (fun _ _ q => q) fun _ _ q => okE_le le1 q) fun y w2 s2 b le2 hr2 hb hn2 h3 => ?_
      obtain ⟨o, e1, h3⟩ := h3.opt
      obtain ⟨o', e2, h3⟩ := h3.opt
      obtain ⟨rv, e3, h4⟩ := h3.opt
      exact hs w2 x y o o' rv Q hr2.mem.ext (od_of hr2 (ha.le hn le2) e1) (od_of hr2 hb e2) e3 (post_of hr2 fun z w' le r' o f => h4 z w' ((le1.trans le2).trans le) r' o (f.back (le1.trans le2) le o))
    · rw [if_neg ht] at h2
      exact h2.elim
/-! ### xs.count(x) -/
def rCntD (K : Fg) : V → List V → Hp → VK → Prop := fun x us H Q => ∃ p y d xs, x = .ref p ∧ us = [y] ∧ Rp K H (.ref p) (.list xs) ∧ Rp K H y d ∧ okd d = true ∧ okd (.list xs) = true ∧ Q (.int ((xs.countP fun z => PyData.eqv z d : Nat) : Int)) H
theorem mt_cntD {k : Nat} (hr : Rg k X.A) : MtR X "list.count" (rCntD X.K) := by
  intro pins s σ H x us v vs Q I rx rs h
  obtain ⟨p, y, d, xs, rfl, rfl, hl, hy, sd, se, q⟩ := h
  obtain ⟨u, rfl, ry⟩ := vals1 rs
  cases rx
  obtain ⟨pd, dl⟩ := okd_iff.mp sd
  obtain ⟨pe, _⟩ := okd_iff.mp se
  have px : PyData.plainAll xs = true := by simpa [PyData.plain] using pe
  have hu := hr.units
  obtain ⟨as, r1⟩ := Rp.reads I _ (.ref p) (.ref p) pe hl rfl
  obtain ⟨bs, r2⟩ := Rp.reads I d y u pd hy ry
  cases r1 with
  | list h1 h2 h3 h4 => exact SeqAt.count_list_data ⟨_, h1, h2, _, h3⟩ h4 r2 px pd (by omega) ⟨.int _, H, I.tok _, ⟨_, rfl⟩, q⟩
def opCount : Od → Od → Option Rv
  | .d (.list xs), .d d => if okd d = true ∧ okd (.list xs) = true then some (.d (.int ((xs.countP fun z => PyData.eqv z d : Nat) : Int))) else none
  | _, _ => none
theorem s_count {K : Fg} : Op2S K (fun x y => rCntD K x [y]) opCount := by
  intro w x y o o' rv Q hx h h' e q
  unfold opCount at e
  split at e
  · split at e
    · rename_i hh
      cases e
      have hl := h.rp hx
      obtain ⟨p, vs, rfl, hs, ra⟩ := h.list hx
      exact ⟨p, y, _, _, rfl, rfl, hl, h'.rp hx, hh.1, hh.2, post_int q⟩
    · cases e
  · cases e
theorem e_count {o e : Expr} {apos cpos : Pos} {co c : CE} {k : Nat} (hr : Rg k X.A) (ho : Ex X ec W o co) (ha : Ex X ec W e c) (hbase : attributeBase o "count" X.env (eval o X.env) = eval o X.env := by rfl)
    (hfew : ((backTo cpos (starEach [e] X.env)).all (fun x => !x.1) && (backToKw cpos (keywordEach [] X.env)).all (fun x => x.1.isSome) && decide (([e] : List Expr).length + ([] : List Keyword).length + (if ([] : List Keyword).isEmpty then 0 else 1) < 30)) = true := by rfl)
    (hline : (apos.endLine == cpos.line) = true := by rfl) (hs : starEach [e] X.env = (false, eval e X.env) :: starEach [] X.env := by rfl) (hplain : (backTo cpos (starEach [] X.env)).any (·.1) = false := by rfl) :
    Ex X ec W (.Call (.Attribute o "count" apos) [e] [] cpos) (cMt1 "list" opCount co c) :=
  e_mt1 s_count ho ha hs fun h1 h2 => pe_bm F.plainAttrs_list F.slot_list_count F.type_list_count (mt_cntD hr) h1 h2 hbase hfew hline hs hplain
/-! ### xs.index(x), flat items -/
def flatD : D → Bool
  | .none => true
  | .bool _ => true
  | .int _ => true
  | .str _ => true
  | _ => false
def vOf : D → V
  | .bool b => .bl b
  | .int i => .int i
  | .str z => .str z
  | _ => .non
theorem vOf_rp {K : Fg} {H : Hp} {x : V} {d : D} (h : Rp K H x d) (f : flatD d = true) : x = vOf d := by
  cases d with
  | none => cases h; rfl
  | bool _ => cases h; rfl
  | int _ => cases h; rfl
  | str _ => cases h; rfl
  | list _ => cases f
  | tuple _ => cases f
  | dict _ => cases f
theorem vOf_flat {d : D} (f : flatD d = true) : flatV (vOf d) = true := by
  cases d <;> first | rfl | cases f
theorem vOf_eq {d e : D} (f : flatD d = true) (g : flatD e = true) : eqV (vOf d) (vOf e) = PyData.eqv d e := by
  cases d <;> cases e <;> first | rfl | exact absurd g Bool.false_ne_true | exact absurd f Bool.false_ne_true
theorem vOf_all {K : Fg} {H : Hp} : ∀ {vs : List V} {ds : List D}, RpAll K H vs ds → ds.all flatD = true → vs = ds.map vOf
  | _, _, .nil, _ => rfl
  | _, _, .cons r t, h => by
    rw [List.all_cons, Bool.and_eq_true] at h
    rw [vOf_rp r h.1, vOf_all t h.2]
    rfl
def opIndex : Od → Od → Option Rv
  | .d (.list xs), .d d => if xs.all flatD = true ∧ flatD d = true then (match xs.findIdx? fun z => PyData.eqv z d with
    | some j => some (.d (.int (j : Nat)))
    | none => none) else none
  | _, _ => none
theorem s_index {K : Fg} : Op2S K (fun x y => rIndex K x [y]) opIndex := by
  intro w x y o o' rv Q hx h h' e q
  unfold opIndex at e
  split at e
  · split at e
    · rename_i xs d hh
      obtain ⟨p, vs, rfl, hs, ra⟩ := h.list hx
      split at e
      · rename_i j hj
        cases e
        have ev := vOf_all ra hh.1
        subst ev
        have ey := vOf_rp (h'.rp hx) hh.2
        subst ey
        obtain ⟨hlt, hp, hno⟩ := List.findIdx?_eq_some_iff_getElem.mp hj
        have fl : ∀ (m : Nat) (hm : m < xs.length), flatD xs[m] = true := fun m hm => List.all_eq_true.mp hh.1 _ (List.getElem_mem hm)
        refine ⟨p, xs.map vOf, vOf d, j, vOf xs[j], rfl, rfl, hs, vOf_flat hh.2, ?_, ?_, ?_, fun m z' hm hz => ?_, post_int q⟩
        · rw [List.all_map]
          exact List.all_eq_true.mpr fun z hz => vOf_flat (List.all_eq_true.mp hh.1 z hz)
        · rw [List.getElem?_map, List.getElem?_eq_getElem hlt]
          rfl
        · rw [vOf_eq (fl j hlt) hh.2]
          exact hp
        · rw [List.getElem?_map, List.getElem?_eq_getElem (by omega)] at hz
          cases hz
          rw [vOf_eq (fl m (by omega)) hh.2]
          exact Bool.not_eq_true _ |>.mp (hno m hm)
      · cases e
    · cases e
  · cases e
theorem e_index {o e : Expr} {apos cpos : Pos} {co c : CE} (ho : Ex X ec W o co) (ha : Ex X ec W e c) (hbase : attributeBase o "index" X.env (eval o X.env) = eval o X.env := by rfl)
    (hfew : ((backTo cpos (starEach [e] X.env)).all (fun x => !x.1) && (backToKw cpos (keywordEach [] X.env)).all (fun x => x.1.isSome) && decide (([e] : List Expr).length + ([] : List Keyword).length + (if ([] : List Keyword).isEmpty then 0 else 1) < 30)) = true := by rfl)
    (hline : (apos.endLine == cpos.line) = true := by rfl) (hs : starEach [e] X.env = (false, eval e X.env) :: starEach [] X.env := by rfl) (hplain : (backTo cpos (starEach [] X.env)).any (·.1) = false := by rfl) :
    Ex X ec W (.Call (.Attribute o "index" apos) [e] [] cpos) (cMt1 "list" opIndex co c) :=
  e_mt1 s_index ho ha hs fun h1 h2 => pe_bm F.plainAttrs_list F.slot_list_index F.type_list_index mt_index h1 h2 hbase hfew hline hs hplain
def mtK (T : String) (f : Od → Od → Option Rv) (c : CE) (x : Rv) : Option Od → S → R Rv
  | some o1, s1 => if tyO T o1 = true then (cv c s1).bind (kOp2b f x) else .bad
  | none, _ => .bad
@[simp] theorem mtK_s {T : String} {f : Od → Od → Option Rv} {c : CE} {x : Rv} {o1 : Od} {s1 : S} : mtK T f c x (some o1) s1 = if tyO T o1 = true then (cv c s1).bind (kOp2b f x) else .bad := Eq.trans rfl rfl
def kMt (T : String) (f : Od → Od → Option Rv) (c : CE) (x : Rv) (s1 : S) : R Rv := mtK T f c x (x.od s1.m) s1
@[simp] theorem kMt_s {T : String} {f : Od → Od → Option Rv} {c : CE} {x : Rv} {s1 : S} : kMt T f c x s1 = mtK T f c x (x.od s1.m) s1 := Eq.trans rfl rfl
@[simp] theorem cMt1_s {T : String} {f : Od → Od → Option Rv} {co c : CE} {s : S} : cMt1 T f co c s = (cv co s).bind (kMt T f c) := by
  unfold cMt1
  congr 1
  funext x s1
  rw [kMt_s]
  cases x.od s1.m with
  | none => rfl
  | some o1 =>
    show (if tyO T o1 = true then _ else _) = _
    rw [mtK_s]
    split
    · congr 1
      funext y s2
      exact opt_od2
    · rfl
@[simp] theorem tyO_l {ds : List D} : tyO "list" (.d (.list ds)) = true := Eq.trans rfl rfl
/-! ### xs[::-1] -/
def opRev : Od → Option Rv
  | .d (.list ds) => some (.new (.l ds.reverse))
  | _ => none
end
end Vm
namespace Vm
open PySem L2
/-! ### shares by what they stand for -/
theorem opNe_self {d : D} (h : okd d = true) : opNe (.d d) (.d d) = some (.d (.bool false)) := by
  have e : eqB d d = some true := by
    unfold eqB
    split
    · simp
    · rw [if_pos ⟨h, h⟩, SeqAt.eqv_refl_plain _ (okd_iff.mp h).1]
  unfold opNe
  dsimp only
  rw [e]
  rfl
theorem opEq_self {d : D} (h : okd d = true) : opEq (.d d) (.d d) = some (.d (.bool true)) := by
  have e : eqB d d = some true := by
    unfold eqB
    split
    · simp
    · rw [if_pos ⟨h, h⟩, SeqAt.eqv_refl_plain _ (okd_iff.mp h).1]
  unfold opEq
  dsimp only
  rw [e]
structure Tell (k : Nat) (d : D) (x : Rat) : Prop where
  ex : ∃ p q, d = shD p q ∧ Sh k p q ∧ (p : Rat) = x * q
theorem rat_pos {q : Int} (h : 1 ≤ q) : (0 : Rat) < q := Rat.intCast_pos.mpr (by omega)
theorem rat_ne {q : Int} (h : 1 ≤ q) : (q : Rat) ≠ 0 := fun z => by
  have := Rat.intCast_eq_zero_iff.mp z
  omega
theorem Tell.okd {k : Nat} {d : D} {x : Rat} (h : Tell k d x) : Vm.okd d = true := by
  obtain ⟨p, q, rfl, _⟩ := h.ex
  exact okd_intsT [p, q]
theorem Tell.ne {k : Nat} {d : D} {x : Rat} (h : Tell k d x) : opNe (.d d) (.d d) = some (.d (.bool false)) := opNe_self h.okd
theorem Tell.eq {k : Nat} {d : D} {x : Rat} (h : Tell k d x) : opEq (.d d) (.d d) = some (.d (.bool true)) := opEq_self h.okd
theorem Tell.mono {j k : Nat} {d : D} {x : Rat} (h : Tell j d x) (q : j ≤ k) : Tell k d x := by
  obtain ⟨p, q', e, s, r⟩ := h.ex
  exact ⟨p, q', e, s.mono q, r⟩
theorem Tell.to {k : Nat} {d : D} {x y : Rat} (h : Tell k d x) (e : x = y) : Tell k d y := e ▸ h
theorem Sh.tell {k : Nat} {p q : Int} (h : Sh k p q) : ∃ x : Rat, Tell k (shD p q) x ∧ (p : Rat) = x * q := by
  have hq := rat_ne h.pos
  refine ⟨(p : Rat) / q, ⟨p, q, rfl, h, ?_⟩, ?_⟩ <;> grind
theorem Tell.one {j k : Nat} {d e : D} {x : Rat} (h : Tell j d x) (g : Tell k e x) : d = e := by
  obtain ⟨p, q, rfl, s, r⟩ := h.ex
  obtain ⟨p', q', rfl, s', r'⟩ := g.ex
  have : p * q' = p' * q := by
    rw [← Rat.intCast_inj, Rat.intCast_mul, Rat.intCast_mul, r, r']
    grind
  obtain ⟨rfl, rfl⟩ := low_one s.pos s'.pos s.cop s'.cop this
  rfl
end Vm
namespace Vm
open PySem L2 PySem.Spec PyProof.Rows
/-! ### how long a repr is -/
structure Fits (d : D) (n m : Nat) : Prop where
  len : d.shown.length ≤ n
  sh : d.showable = true
  pl : d.plain = true
  dp : d.depth ≤ m
theorem Fits.mono {d : D} {n m n' m' : Nat} (h : Fits d n m) (a : n ≤ n') (b : m ≤ m') : Fits d n' m' := ⟨Nat.le_trans h.len a, h.sh, h.pl, Nat.le_trans h.dp b⟩
theorem Fits.int {k : Nat} {i : Int} (h : Bs k i) (hk : k ≤ 1918) : Fits (.int i) (k + 2) 0 := by
  have hl := h.log
  refine ⟨?_, ?_, rfl, Nat.le_refl _⟩
  · have e := int_text_length_le (k := k + 1) (by omega) hl
    show (Str.ofString (toString i)).length ≤ k + 2
    rw [PySem.ofString_length]
    exact e
  · simp only [PyData.showable, decide_eq_true_eq]
    omega
theorem Fits.none : Fits .none 4 0 := ⟨by decide, rfl, rfl, by decide⟩
theorem Fits.bool {b : Bool} : Fits (.bool b) 5 0 := ⟨by cases b <;> decide, rfl, rfl, Nat.le_refl _⟩
theorem fits_all {n m : Nat} : ∀ {ds : List D}, (∀ d, d ∈ ds → Fits d n m) → piled (PyData.shownAll ds) ≤ ds.length * (n + 2) ∧ PyData.showableAll ds = true ∧ PyData.plainAll ds = true ∧ PyData.depthAll ds ≤ m
  | [], _ => ⟨Nat.zero_le _, rfl, rfl, Nat.zero_le _⟩
  | d :: ds, h => by
    obtain ⟨a, b, c, e⟩ := fits_all (ds := ds) fun x hx => h x (List.mem_cons_of_mem _ hx)
    have h0 := h d (List.mem_cons_self ..)
    refine ⟨?_, ?_, ?_, ?_⟩
    · show piled (d.shown :: PyData.shownAll ds) ≤ _
      rw [piled_cons, List.length_cons, Nat.add_mul]
      have := h0.len
      omega
    · simp only [PyData.showableAll, h0.sh, b, Bool.and_self]
    · simp only [PyData.plainAll, h0.pl, c, Bool.and_self]
    · show max d.depth (PyData.depthAll ds) ≤ m
      exact Nat.max_le.mpr ⟨h0.dp, e⟩
theorem listText_le (ts : List Str) : (listText ts).length ≤ piled ts + 2 := by
  unfold listText
  cases ts with
  | nil => decide
  | cons t r =>
    show (textFrom 1 ("[" ++ "" ++ t) r ++ "]").length ≤ _
    rw [Str.length_append, textFrom_length_pos _ _ _ (by decide), piled_cons, Str.length_append, Str.length_append]
    show (("[" : Str).length + ("" : Str).length + t.length + piled r) + ("]" : Str).length ≤ _
    have h1 : ("[" : Str).length = 1 := rfl
    have h2 : ("" : Str).length = 0 := rfl
    have h3 : ("]" : Str).length = 1 := rfl
    omega
theorem Fits.list {n m : Nat} {ds : List D} (h : ∀ d, d ∈ ds → Fits d n m) : Fits (.list ds) (ds.length * (n + 2) + 2) (m + 1) := by
  obtain ⟨a, b, c, e⟩ := fits_all h
  refine ⟨?_, by simp only [PyData.showable]; exact b, by rw [PyData.plain]; exact c, Nat.succ_le_succ e⟩
  simp only [PyData.shown]
  have := listText_le (PyData.shownAll ds)
  omega
theorem Fits.tuple {n m : Nat} {ds : List D} (h : ∀ d, d ∈ ds → Fits d n m) : Fits (.tuple ds) (ds.length * (n + 2) + 2) (m + 1) := by
  obtain ⟨a, b, c, e⟩ := fits_all h
  refine ⟨?_, by simp only [PyData.showable]; exact b, by rw [PyData.plain]; exact c, Nat.succ_le_succ e⟩
  simp only [PyData.shown]
  have := fmt_text (PyData.shownAll ds)
  omega
theorem opRepr_s {d : D} (h : okr d = true) : opRepr (.d d) = some (.d (.str d.shown)) := by
  show (if okr d = true ∨ okrN d = true then _ else _) = _
  rw [if_pos (.inl h)]
theorem opRepr_n {d : D} (h : okrN d = true) : opRepr (.d d) = some (.d (.str d.shown)) := by
  show (if okr d = true ∨ okrN d = true then _ else _) = _
  rw [if_pos (.inr h)]
@[simp] theorem opRev_l {ds : List D} : opRev (.d (.list ds)) = some (.new (.l ds.reverse)) := Eq.trans rfl rfl
@[simp] theorem opIs_b {neg a b : Bool} : opIs neg (.d (.bool a)) (.d (.bool b)) = some (.d (.bool (if neg then !decide (a = b) else decide (a = b)))) := Eq.trans rfl rfl
@[simp] theorem opIs_n {neg : Bool} {d : D} : opIs neg (.d d) (.d .none) = some (.d (.bool (if neg then !isNone d else isNone d))) := Eq.trans rfl rfl
/-! ### targets that are tuples -/
@[simp] theorem tgNil_s {s : S} : tgNil [] s = some s := Eq.trans rfl rfl
@[simp] theorem tgTup_s {n : Nat} {t : Tgs} {ds : List D} {s : S} (h : ds.length = n) : tgTup n t (.tuple ds) s = t ds s := by
  show (if ds.length = n then _ else _) = _
  rw [if_pos h]
def asgR (tg : Tg) : Rv → S → Out
  | .d d, s1 => match tg d s1 with
    | some s2 => .nx s2
    | none => .bad
  | _, _ => .bad
@[simp] theorem cAsg_s {tg : Tg} {c : CE} {s : S} : cAsg tg c s = (cv c s).out (asgR tg) := by
  unfold cAsg
  congr 1
  funext a s1
  cases a <;> rfl
theorem asg_3 {i j k : Nat} {x y z : D} {s : S} : asgR (tgTup 3 (tgCons (tgN i) (tgCons (tgN j) (tgCons (tgN k) tgNil)))) (.d (.tuple [x, y, z])) s = .nx ⟨((s.v.set i (.d x)).set j (.d y)).set k (.d z), s.m⟩ := rfl
end Vm
namespace Vm
open PySem L2
/-! ### stands that are drawn -/
/-! ### the first of the least -/
structure FirstMin (xs : List Int) (b : Nat) : Prop where
  lt : b < xs.length
  le : ∀ (j : Nat) (y : Int), xs[j]? = some y → xs[b]?.getD 0 ≤ y
  fst : ∀ (j : Nat) (y : Int), j < b → xs[j]? = some y → xs[b]?.getD 0 < y
theorem FirstMin.one {xs : List Int} {a b : Nat} (h : FirstMin xs a) (g : FirstMin xs b) : a = b := by
  have ha : xs[a]? = some (xs[a]?.getD 0) := by rw [List.getElem?_eq_getElem h.lt]; rfl
  have hb : xs[b]? = some (xs[b]?.getD 0) := by rw [List.getElem?_eq_getElem g.lt]; rfl
  rcases Nat.lt_trichotomy a b with q | q | q
  · have := g.fst a _ q ha
    have := h.le b _ hb
    omega
  · exact q
  · have := h.fst b _ q hb
    have := g.le a _ ha
    omega
theorem index_min {xs : List Int} (h : xs ≠ []) : ∃ m b, minI xs = some m ∧ opIndex (.d (.list (xs.map PyData.int))) (.d (.int m)) = some (.d (.int (b : Nat))) ∧ FirstMin xs b ∧ xs[b]? = some m := by
  obtain ⟨x, r, rfl⟩ : ∃ x r, xs = x :: r := by
    cases xs with
    | nil => exact absurd rfl h
    | cons x r => exact ⟨x, r, rfl⟩
  obtain ⟨h1, h2⟩ := foldl_min_le r x
  have hm : r.foldl min x ∈ x :: r := by
    rcases foldl_min_mem r x with e | e
    · rw [e]
      exact List.mem_cons_self ..
    · exact List.mem_cons_of_mem _ e
  have hle : ∀ y, y ∈ x :: r → r.foldl min x ≤ y := fun y hy => by
    rcases List.mem_cons.mp hy with rfl | hy
    · exact h1
    · exact h2 y hy
  generalize hmm : r.foldl min x = m at *
  generalize hxs : x :: r = xs at *
  have eqf : ∀ z : Int, PyData.eqv (.int z) (.int m) = (z == m) := fun _ => rfl
  have hf : (xs.map PyData.int).findIdx? (fun z => PyData.eqv z (.int m)) = xs.findIdx? (fun z => z == m) := by
    rw [List.findIdx?_map]
    rfl
  obtain ⟨b, hb⟩ : ∃ b, xs.findIdx? (fun z => z == m) = some b := by
    cases e : xs.findIdx? (fun z => z == m) with
    | some b => exact ⟨b, rfl⟩
    | none =>
      have := List.findIdx?_eq_none_iff.mp e m hm
      simp at this
  obtain ⟨hlt, hp, hno⟩ := List.findIdx?_eq_some_iff_getElem.mp hb
  have hp : xs[b] = m := by simpa using hp
  have hxb : xs[b]? = some m := by rw [List.getElem?_eq_getElem hlt, hp]
  refine ⟨m, b, by rw [← hxs]; exact congrArg some hmm, ?_, ⟨hlt, fun j y hy => ?_, fun j y hj hy => ?_⟩, hxb⟩
  · unfold opIndex
    dsimp only
    have fl : (xs.map PyData.int).all flatD = true := by
      rw [List.all_map]
      exact List.all_eq_true.mpr fun _ _ => rfl
    rw [if_pos ⟨fl, rfl⟩, hf, hb]
  · rw [hxb]
    exact hle y (List.mem_of_getElem? hy)
  · rw [hxb]
    have h3 := hle y (List.mem_of_getElem? hy)
    obtain ⟨hjl, hje⟩ := List.getElem?_eq_some_iff.mp hy
    have h4 := hno j hj
    rw [hje] at h4
    have h5 : y ≠ m := by simpa using h4
    show m < y
    omega
end Vm
namespace Vm
open PySem L2
/-- the first of the least of the first i -/
structure PreMin (xs : List Int) (i b : Nat) : Prop where
  lt : b < xs.length
  le : ∀ (j : Nat) (y : Int), j < i → xs[j]? = some y → xs[b]?.getD 0 ≤ y
  fst : ∀ (j : Nat) (y : Int), j < b → xs[j]? = some y → xs[b]?.getD 0 < y
theorem PreMin.start {xs : List Int} (h : xs ≠ []) : PreMin xs 0 0 := ⟨List.length_pos_iff.mpr h, (fun j y hj => nomatch hj), (fun j y hj => nomatch hj)⟩
theorem PreMin.take {xs : List Int} {i b : Nat} (h : PreMin xs i b) (hi : i < xs.length) (hlt : xs[i] < xs[b]'h.lt) : PreMin xs (i + 1) i := by
  have hx : xs[i]? = some xs[i] := List.getElem?_eq_getElem hi
  have hxb : xs[b]? = some (xs[b]'h.lt) := List.getElem?_eq_getElem h.lt
  refine ⟨hi, fun j y hj hy => ?_, fun j y hj hy => ?_⟩
  · rw [hx]
    show xs[i] ≤ y
    by_cases hji : j = i
    · subst hji
      rw [hx] at hy
      cases hy
      omega
    · have := h.le j y (by omega) hy
      rw [hxb] at this
      have : xs[b]'h.lt ≤ y := this
      omega
  · rw [hx]
    show xs[i] < y
    have := h.le j y hj hy
    rw [hxb] at this
    have : xs[b]'h.lt ≤ y := this
    omega
theorem PreMin.keep {xs : List Int} {i b : Nat} (h : PreMin xs i b) (hi : i < xs.length) (hlt : ¬ xs[i] < xs[b]'h.lt) : PreMin xs (i + 1) b := by
  have hx : xs[i]? = some xs[i] := List.getElem?_eq_getElem hi
  have hxb : xs[b]? = some (xs[b]'h.lt) := List.getElem?_eq_getElem h.lt
  refine ⟨h.lt, fun j y hj hy => ?_, h.fst⟩
  by_cases hji : j = i
  · subst hji
    rw [hx] at hy
    cases hy
    rw [hxb]
    show xs[b]'h.lt ≤ xs[j]
    omega
  · exact h.le j y (by omega) hy
theorem PreMin.first {xs : List Int} {b : Nat} (h : PreMin xs xs.length b) : FirstMin xs b := ⟨h.lt, fun j y hy => h.le j y (List.getElem?_eq_some_iff.mp hy).1 hy, h.fst⟩
def fmI (xs : List Int) : Nat := (xs.findIdx? fun z => some z == minI xs).getD 0
theorem fmI_ok {xs : List Int} (h : xs ≠ []) : FirstMin xs (fmI xs) := by
  obtain ⟨m, b, h1, h2, h3, h4⟩ := index_min h
  have : fmI xs = b := by
    unfold fmI
    rw [h1]
    have hb : xs.findIdx? (fun z => some z == some m) = some b := by
      refine List.findIdx?_eq_some_iff_getElem.mpr ⟨h3.lt, ?_, fun j hj => ?_⟩
      · have : xs[b]'h3.lt = m := (List.getElem?_eq_some_iff.mp h4).2
        simp [this]
      · have := h3.fst j _ hj (List.getElem?_eq_getElem (Nat.lt_trans hj h3.lt))
        rw [h4] at this
        have : m < xs[j]'(Nat.lt_trans hj h3.lt) := this
        simp
        omega
    rw [hb]
    rfl
  rw [this]
  exact h3
end Vm
namespace Vm
open PySem L2 PySem.Spec PyProof.Rows
/-! ### an empty dict -/
def cNewK : CE := fun s => .ok (.new (.k [])) s
section
variable {X : Cx} {ec : EC} {W : WX}
theorem e_newK {pos : Pos} : Ex X ec W (.Dict [] [] pos) cNewK := pe_dnewK.imp fun σ H Q h => by
  obtain ⟨w, s, rfl, hr, h⟩ := h
  intro p hp
  have hh := hr.hold (o := .dK []) hp
  obtain ⟨h3, h4, _⟩ := hh.mem.fo p (.inr rfl)
  have r3 : Rel ec X.K ⟨w.G, w.r, w.F, upd w.H p (.dK [])⟩ σ s := hh.f (fun q hq => hh.mem.fo q (.inl hq)) (hr.mem.tab.back hh.mem.tab) fun q hq => hh.mem.nv.2 q (.inl hq)
  have l3 : Le w ⟨w.G, w.r, w.F, upd w.H p (.dK [])⟩ := by
    have l1 := (Le.hold (w := w) (o := .dK []) hp)
    refine ⟨l1.g, fun a u e n => ⟨u, ?_, fun _ => rfl⟩, l1.p, fun _ h => .inl h, rfl, fun a od u e => by show upd w.H p _ a = _; rw [upd_ne (ne_of_none e hp)]; exact e⟩
    show upd w.H p _ a = some u
    rw [upd_ne (ne_of_none e hp)]
    exact e
  have nf : ¬ w.F p := fun z => by
    obtain ⟨_, _, u, hu⟩ := hr.mem.fo p z
    rw [hp] at hu
    cases hu
  exact h (.ref p) ⟨w.G, w.r, w.F, upd w.H p (.dK [])⟩ l3 r3 ⟨p, rfl, ⟨h4, nf⟩, h3, [], upd_same, .nil⟩ fun _ _ p' e => by
    cases e
    exact hp
end
@[simp] theorem cNewK_s {s : S} : cNewK s = .ok (.new (.k [])) s := Eq.trans rfl rfl
end Vm
namespace Vm
open PySem L2 PySem.Spec PyProof.Rows
/-! ### a < b < c, run -/
def kCh3 (g : Od → Od → Option Rv) (y z : Rv) (s3 : S) : R Rv := opt (y.od s3.m) fun p => opt (z.od s3.m) fun p' => opt (g p p') fun rv' => .ok rv' s3
def kChB (g : Od → Od → Option Rv) (c : CE) (y : Rv) (o : Option Rv) (s2 : S) : R Rv := opt o fun rv => match rv with
  | .d (.bool true) => (cv c s2).bind (kCh3 g y)
  | .d (.bool false) => .ok (.d (.bool false)) s2
  | _ => .bad
def kCh2 (f g : Od → Od → Option Rv) (c : CE) (x y : Rv) (s2 : S) : R Rv := opt (x.od s2.m) fun o => opt (y.od s2.m) fun o' => kChB g c y (f o o') s2
def kCh1 (f g : Od → Od → Option Rv) (b c : CE) (x : Rv) (s1 : S) : R Rv := (cv b s1).bind (kCh2 f g c x)
@[simp] theorem kCh3_s {g : Od → Od → Option Rv} {y z : D} {s : S} : kCh3 g (.d y) (.d z) s = rvK (g (.d y) (.d z)) s := by
  unfold kCh3
  rw [od_d, opt_some, od_d, opt_some]
  cases g (.d y) (.d z) <;> rfl
@[simp] theorem kChB_s {g : Od → Od → Option Rv} {c : CE} {y : Rv} {b : Bool} {s : S} : kChB g c y (some (.d (.bool b))) s = if b = true then (cv c s).bind (kCh3 g y) else .ok (.d (.bool false)) s := by
  cases b <;> rfl
@[simp] theorem kCh2_s {f g : Od → Od → Option Rv} {c : CE} {x y : D} {s : S} : kCh2 f g c (.d x) (.d y) s = kChB g c (.d y) (f (.d x) (.d y)) s := Eq.trans rfl rfl
@[simp] theorem kCh1_s {f g : Od → Od → Option Rv} {b c : CE} {x : Rv} {s : S} : kCh1 f g b c x s = (cv b s).bind (kCh2 f g c x) := Eq.trans rfl rfl
@[simp] theorem cChain_s {f g : Od → Od → Option Rv} {a b c : CE} {s : S} : cChain f g a b c s = (cv a s).bind (kCh1 f g b c) := Eq.trans rfl rfl
/-! ### any thing, to be told -/
/-- a thing of so long a repr, so deep: b: without dicts; not b: without lists -/
structure Kd (b : Bool) (n m : Nat) (d : D) : Prop where
  len : d.shown.length ≤ n
  sh : d.showable = true
  dp : d.depth ≤ m
  pl : b = true → d.plain = true
  nl : b = false → noLs d = true
theorem Kd.mono {b : Bool} {d : D} {n m n' m' : Nat} (h : Kd b n m d) (x : n ≤ n') (y : m ≤ m') : Kd b n' m' d := ⟨Nat.le_trans h.len x, h.sh, Nat.le_trans h.dp y, h.pl, h.nl⟩
theorem Kd.ofFits {b : Bool} {n m : Nat} {d : D} (h : Fits d n m) (q : noLs d = true) : Kd b n m d := ⟨h.len, h.sh, h.dp, fun _ => h.pl, fun _ => q⟩
theorem kd_all {b : Bool} {n m : Nat} : ∀ {ds : List D}, (∀ d, d ∈ ds → Kd b n m d) → piled (PyData.shownAll ds) ≤ ds.length * (n + 2) ∧ PyData.showableAll ds = true ∧ PyData.depthAll ds ≤ m ∧ (b = true → PyData.plainAll ds = true) ∧ (b = false → noLsAll ds = true)
  | [], _ => ⟨Nat.zero_le _, rfl, Nat.zero_le _, fun _ => rfl, fun _ => rfl⟩
  | d :: ds, h => by
    obtain ⟨a, c, e, f, g⟩ := kd_all (ds := ds) fun x hx => h x (List.mem_cons_of_mem _ hx)
    have h0 := h d (List.mem_cons_self ..)
    refine ⟨?_, ?_, ?_, fun hb => ?_, fun hb => ?_⟩
    · show piled (d.shown :: PyData.shownAll ds) ≤ _
      rw [piled_cons, List.length_cons, Nat.add_mul]
      have := h0.len
      omega
    · simp only [PyData.showableAll, h0.sh, c, Bool.and_self]
    · show max d.depth (PyData.depthAll ds) ≤ m
      exact Nat.max_le.mpr ⟨h0.dp, e⟩
    · simp only [PyData.plainAll, h0.pl hb, f hb, Bool.and_self]
    · simp only [noLsAll, h0.nl hb, g hb, Bool.and_self]
theorem Kd.tuple {b : Bool} {n m : Nat} {ds : List D} (h : ∀ d, d ∈ ds → Kd b n m d) : Kd b (ds.length * (n + 2) + 2) (m + 1) (.tuple ds) := by
  obtain ⟨a, c, e, f, g⟩ := kd_all h
  refine ⟨?_, by simp only [PyData.showable]; exact c, Nat.succ_le_succ e, fun hb => by rw [PyData.plain]; exact f hb, fun hb => by rw [noLs]; exact g hb⟩
  simp only [PyData.shown]
  have := fmt_text (PyData.shownAll ds)
  omega
theorem Kd.list {n m : Nat} {ds : List D} (h : ∀ d, d ∈ ds → Kd true n m d) : Kd true (ds.length * (n + 2) + 2) (m + 1) (.list ds) := by
  obtain ⟨a, c, e, f, g⟩ := kd_all h
  refine ⟨?_, by simp only [PyData.showable]; exact c, Nat.succ_le_succ e, fun hb => by rw [PyData.plain]; exact f hb, fun hb => nomatch hb⟩
  simp only [PyData.shown]
  have := listText_le (PyData.shownAll ds)
  omega
theorem Kd.int {b : Bool} {k : Nat} {i : Int} (h : Bs k i) (hk : k ≤ 1918) : Kd b (k + 2) 0 (.int i) := .ofFits (.int h hk) rfl
theorem Kd.none {b : Bool} : Kd b 5 0 .none := .ofFits (Fits.none.mono (by decide) (by decide)) rfl
theorem Kd.bool {b c : Bool} : Kd b 5 0 (.bool c) := .ofFits Fits.bool rfl
theorem Kd.rep {b : Bool} {n m : Nat} {d : D} (h : Kd b n m d) (x : n ≤ 16000000) (y : m ≤ 60) : opRepr (.d d) = some (.d (.str d.shown)) := by
  cases b with
  | true =>
    refine opRepr_s ?_
    unfold Vm.okr
    rw [Bool.and_eq_true, Bool.and_eq_true, decide_eq_true_eq]
    exact ⟨⟨okd_iff.mpr ⟨h.pl rfl, Nat.le_trans h.dp y⟩, h.sh⟩, Nat.le_trans h.len x⟩
  | false =>
    refine opRepr_n ?_
    unfold Vm.okrN
    rw [Bool.and_eq_true, Bool.and_eq_true, Bool.and_eq_true, decide_eq_true_eq, decide_eq_true_eq]
    exact ⟨⟨⟨h.nl rfl, Nat.le_trans h.dp y⟩, h.sh⟩, Nat.le_trans h.len x⟩
/-- one of a list -/
theorem pick {xs : List D} {i : Int} (h0 : 0 ≤ i) (h : i < xs.length) : ∃ x, x ∈ xs ∧ opIx (.d (.list xs)) (.d (.int i)) = some (.d x) :=
  ⟨xs[i.toNat]'(by omega), List.getElem_mem _, opIx_l (atI_nat h0 (List.getElem?_eq_getElem (by omega)))⟩
theorem pickT {xs : List D} {i : Int} (h0 : 0 ≤ i) (h : i < xs.length) : ∃ x, x ∈ xs ∧ opIx (.d (.tuple xs)) (.d (.int i)) = some (.d x) :=
  ⟨xs[i.toNat]'(by omega), List.getElem_mem _, opIx_t (atI_nat h0 (List.getElem?_eq_getElem (by omega)))⟩
/-! ### looks at any thing -/
def isInt : D → Bool
  | .int _ => true
  | _ => false
theorem whole_d {d : D} {m : List Cell} : fWhole [.d d] m = .ok (.d (.bool (isInt d))) (m.take m.length) := by
  cases d <;> rfl
theorem opAll_b {α : Type} {p : α → Bool} {xs : List α} : opAll (.d (.list (xs.map fun x => PyData.bool (p x)))) = some (.d (.bool (xs.all p))) := by
  have h : ∀ xs : List α, bools? (xs.map fun x => PyData.bool (p x)) = some (xs.map p) := by
    intro xs
    induction xs with
    | nil => rfl
    | cons x xs ih =>
      show (match bools? (xs.map fun x => PyData.bool (p x)) with | some l => some (p x :: l) | none => none) = _
      rw [ih]
      rfl
  unfold opAll
  dsimp only
  rw [h xs]
  dsimp only
  rw [List.all_map]
  rfl
end Vm
namespace Vm
open PySem L2
/-! ### what a statement leaves, wished for -/
structure Po where
  nx : S → Prop
  rt : Rv → S → Prop
  ex : String → S → Prop
  ct : S → Prop
  bk : S → Prop
def Po.of (P : Po) : Out → Prop
  | .nx s => P.nx s
  | .rt a s => P.rt a s
  | .ex e s => P.ex e s
  | .ct s => P.ct s
  | .bk s => P.bk s
  | .bad => False
@[irreducible] def Wp (c : CS) (P : Po) (s : S) : Prop := P.of (c s)
/-- equal; simp does not take it apart -/
def Is {α : Type} (x y : α) : Prop := x = y
theorem Is.rfl {α : Type} {x : α} : Is x x := Eq.refl x
theorem Is.eq {α : Type} {x y : α} (h : Is x y) : x = y := h
/-- a call's result -/
def Ok (r : RF) (Q : Rv → List Cell → Prop) : Prop := ∃ a m, r = .ok a m ∧ Q a m
def poF (m : List Cell) (Q : Rv → List Cell → Prop) : Po where
  nx := fun s => Q (.d .none) (s.m.take m.length)
  rt := fun a s => Ok (fin m (.rt a s)) Q
  ex := fun _ _ => False
  ct := fun _ => False
  bk := fun _ => False
section
variable {a b c : CS} {P : Po} {s s1 : S} {t : CT}
theorem w_of {o : Out} (h : c s = o) (q : P.of o) : Wp c P s := by
  unfold Wp at *
  rw [h]
  exact q
theorem st (h : Is (a s) (.nx s1)) (q : Wp b P s1) : Wp (cSeq a b) P s := by
  unfold Wp at *
  rw [cSeq_s, h.eq]
  exact q
theorem st_last (h : Is (a s) (.nx s1)) (q : P.nx s1) : Wp a P s := w_of h q
theorem w_ret {e : CE} {x : Rv} (h : Is (e s) (.ok x s1)) (q : P.rt x s1) : Wp (cRet e) P s := by
  unfold Wp at *
  rw [cRet_s, h.eq]
  exact q
theorem w_seq (h : Wp a { P with nx := fun s1 => Wp b P s1 } s) : Wp (cSeq a b) P s := by
  unfold Wp at *
  rw [cSeq_s]
  cases e : a s <;> rw [e] at h <;> exact h
theorem w_mono {P' : Po} (h : Wp a P s) (h1 : ∀ s, P.nx s → P'.nx s) (h2 : ∀ x s, P.rt x s → P'.rt x s) (h3 : ∀ x s, P.ex x s → P'.ex x s) (h4 : ∀ s, P.ct s → P'.ct s) (h5 : ∀ s, P.bk s → P'.bk s) : Wp a P' s := by
  unfold Wp at *
  cases e : a s <;> rw [e] at h
  · exact h1 _ h
  · exact h2 _ _ h
  · exact h5 _ h
  · exact h4 _ h
  · exact h3 _ _ h
  · exact h
/-- behind a, N holds -/
theorem w_cut (N : S → Prop) (h : Wp a { P with nx := N } s) (q : ∀ s1, N s1 → Wp b P s1) : Wp (cSeq a b) P s :=
  w_seq (w_mono h q (fun _ _ h => h) (fun _ _ h => h) (fun _ h => h) (fun _ h => h))
/-- a for loop; I i holds ahead of the turn i -/
theorem w_for {ci : CI} {tg : Tg} {ds : List D} (I : Nat → S → Prop) (h : Is (ci s) (.ok ds s1)) (h0 : I 0 s1)
    (hb : ∀ i d s, ds[i]? = some d → I i s → ∃ s2, tg d s = some s2 ∧ Wp a { nx := I (i + 1), rt := P.rt, ex := P.ex, ct := I (i + 1), bk := P.nx } s2)
    (h1 : ∀ s, I ds.length s → P.nx s) : Wp (cFor ci tg a) P s := by
  unfold Wp at *
  rw [cFor_s, h.eq, out_ok]
  have go : ∀ (l : List D) (k : Nat) (s : S), (∀ i d, l[i]? = some d → ds[k + i]? = some d) → k + l.length = ds.length → I k s → P.of (forL tg a l s) := by
    intro l
    induction l with
    | nil =>
      intro k s _ hl hi
      rw [forL_nil]
      have : k = ds.length := by simpa using hl
      exact h1 s (this ▸ hi)
    | cons d l ih =>
      intro k s hd hl hi
      obtain ⟨s2, e1, w⟩ := hb k d s (hd 0 d rfl) hi
      rw [forL_cons e1]
      have next : ∀ s3, I (k + 1) s3 → P.of (forL tg a l s3) := fun s3 h3 => ih (k + 1) s3 (fun i d q => by rw [show k + 1 + i = k + (i + 1) by omega]; exact hd (i + 1) d q) (by rw [List.length_cons] at hl; omega) h3
      cases e : a s2 <;> rw [e] at w
      · exact next _ w
      · exact w
      · exact w
      · exact next _ w
      · exact w
      · exact w
  exact go ds 0 s1 (fun i d q => by rw [Nat.zero_add]; exact q) (by omega) h0
end
/-! calls -/
theorem run_ok {n : Nat} {c : CS} {as : List Sl} {m : List Cell} {Q : Rv → List Cell → Prop} (h : Wp c (poF m Q) ⟨as ++ List.replicate (n - as.length) .u, m⟩) : Ok (runF n c as m) Q := by
  unfold Wp at h
  rw [runF_s]
  generalize c _ = o at h
  cases o with
  | nx s => exact ⟨_, _, rfl, h⟩
  | rt a s => exact h
  | bk s => exact h.elim
  | ct s => exact h.elim
  | ex e s => exact h.elim
  | bad => exact h.elim
theorem ok_cell {m : List Cell} {k : Nat} {s : S} {c : Cell} {Q : Rv → List Cell → Prop} (h1 : m.length ≤ k) (h2 : s.m[k]? = some c) (h3 : c ≠ .gone) (h : Q (.new c) (s.m.take m.length)) : Ok (fin m (.rt (.ref k) s)) Q := ⟨_, _, fin_cell h1 h2 h3, h⟩
theorem Ok.eq {r : RF} {a : Rv} {m : List Cell} (h : Ok r fun x m1 => x = a ∧ m1 = m) : r = .ok a m := by
  obtain ⟨_, _, e, rfl, rfl⟩ := h
  exact e
theorem Ok.imp {r : RF} {Q Q' : Rv → List Cell → Prop} (h : Ok r Q) (q : ∀ a m, Q a m → Q' a m) : Ok r Q' := by
  obtain ⟨a, m, e, h⟩ := h
  exact ⟨a, m, e, q a m h⟩
/-! ### comprehensions over told lists -/
/-! ### operations with bounds that omega sees -/
theorem getD_map {α β : Type} {xs : List α} {F : α → β} {i : Nat} {a : α} {b : β} (h : i < xs.length) : (xs.map F).getD i b = F (xs.getD i a) := by
  rw [List.getD_eq_getElem?_getD, List.getD_eq_getElem?_getD, List.getElem?_map, List.getElem?_eq_getElem h]
  rfl
theorem opIx_lb {ds : List D} {i : Int} (h : 0 ≤ i) (h2 : i < ds.length) : opIx (.d (.list ds)) (.d (.int i)) = some (.d (ds.getD i.toNat .none)) := by
  refine opIx_l (atI_nat h ?_)
  rw [List.getD_eq_getElem?_getD, List.getElem?_eq_getElem (by omega)]
  rfl
theorem opIx_tb {ds : List D} {i : Int} (h : 0 ≤ i) (h2 : i < ds.length) : opIx (.d (.tuple ds)) (.d (.int i)) = some (.d (ds.getD i.toNat .none)) := by
  refine opIx_t (atI_nat h ?_)
  rw [List.getD_eq_getElem?_getD, List.getElem?_eq_getElem (by omega)]
  rfl
theorem opIx_li {ns : List Int} {i : Int} (h : 0 ≤ i) (h2 : i < ns.length) : opIx (.d (.list (ns.map PyData.int))) (.d (.int i)) = some (.d (.int (ns.getD i.toNat 0))) := by
  rw [opIx_lb h (by rw [List.length_map]; exact h2), getD_map (a := 0) (by omega)]
theorem opIx_ti {ns : List Int} {i : Int} (h : 0 ≤ i) (h2 : i < ns.length) : opIx (.d (.tuple (ns.map PyData.int))) (.d (.int i)) = some (.d (.int (ns.getD i.toNat 0))) := by
  rw [opIx_tb h (by rw [List.length_map]; exact h2), getD_map (a := 0) (by omega)]
/-! draws -/
end Vm
namespace Vm
open PySem L2 PySem.Spec PyProof.Rows
/-! ### str(x) -/
def strD : D → Option Str
  | .int i => if okr (.int i) = true then some (PyData.int i).shown else none
  | .str z => some z
  | .list ds => if okr (.list ds) = true then some (PyData.list ds).shown else none
  | .tuple ds => if okr (.tuple ds) = true then some (PyData.tuple ds).shown else none
  | _ => none
def opStr : Od → Option Rv
  | .d d => (strD d).map fun z => .d (.str z)
  | _ => none
/-! ### bool(x) -/
def opBool : Od → Option Rv
  | .d (.int i) => some (.d (.bool (i != 0)))
  | .d (.bool b) => some (.d (.bool b))
  | _ => none
/-! ### shifts, masks -/
/-! ### dict(pairs) -/
/-! ### enumerate -/
end Vm
namespace Vm
open PySem L2 PySem.Spec PyProof.Rows
def enumD (k : Nat) : List D → List D
  | [] => []
  | d :: ds => .tuple [.int (k : Nat), d] :: enumD (k + 1) ds
def zipD : List D → List D → List D
  | d :: ds, e :: es => .tuple [d, e] :: zipD ds es
  | _, _ => []
def ciEnum (c : CE) : CI := fun s => (cv c s).bind fun a s1 => match a with
  | .d (.list ds) => .ok (enumD 0 ds) s1
  | .d (.tuple ds) => .ok (enumD 0 ds) s1
  | _ => .bad
def ciZip (c c' : CE) : CI := fun s => (cv c s).bind fun a s1 => (cv c' s1).bind fun b s2 => match a, b with
  | .d (.list ds), .d (.list es) => .ok (zipD ds es) s2
  | .d (.tuple ds), .d (.tuple es) => .ok (zipD ds es) s2
  | _, _ => .bad
def enumR : Rv → S → R (List D)
  | .d (.list ds), s1 => .ok (enumD 0 ds) s1
  | .d (.tuple ds), s1 => .ok (enumD 0 ds) s1
  | _, _ => .bad
@[simp] theorem enumR_l {ds : List D} {s : S} : enumR (.d (.list ds)) s = .ok (enumD 0 ds) s := Eq.trans rfl rfl
@[simp] theorem enumR_t {ds : List D} {s : S} : enumR (.d (.tuple ds)) s = .ok (enumD 0 ds) s := Eq.trans rfl rfl
@[simp] theorem ciEnum_s {c : CE} {s : S} : ciEnum c s = (cv c s).bind enumR := by
  unfold ciEnum
  congr 1
  funext a s1
  rcases a with (_ | _ | _ | _ | _ | _ | _) | _ | _ <;> rfl
def zipR (a b : Rv) (s2 : S) : R (List D) := match a, b with
  | .d (.list ds), .d (.list es) => .ok (zipD ds es) s2
  | .d (.tuple ds), .d (.tuple es) => .ok (zipD ds es) s2
  | _, _ => .bad
@[simp] theorem zipR_l {ds es : List D} {s : S} : zipR (.d (.list ds)) (.d (.list es)) s = .ok (zipD ds es) s := Eq.trans rfl rfl
@[simp] theorem zipR_t {ds es : List D} {s : S} : zipR (.d (.tuple ds)) (.d (.tuple es)) s = .ok (zipD ds es) s := Eq.trans rfl rfl
def kZip (c' : CE) (a : Rv) (s1 : S) : R (List D) := (cv c' s1).bind (zipR a)
@[simp] theorem kZip_s {c' : CE} {a : Rv} {s : S} : kZip c' a s = (cv c' s).bind (zipR a) := Eq.trans rfl rfl
@[simp] theorem ciZip_s {c c' : CE} {s : S} : ciZip c c' s = (cv c s).bind (kZip c') := Eq.trans rfl rfl
@[simp] theorem opBool_i {i : Int} : opBool (.d (.int i)) = some (.d (.bool (i != 0))) := Eq.trans rfl rfl
@[simp] theorem opBool_b {b : Bool} : opBool (.d (.bool b)) = some (.d (.bool b)) := Eq.trans rfl rfl
@[simp] theorem opInt_b1 {b : Bool} : opInt (.d (.bool b)) = some (.d (.int (if b then 1 else 0))) := rfl
end Vm
namespace Vm
open PySem L2 PySem.Spec PyProof.Rows
@[simp] theorem wipeV_nil {v : List Sl} : wipeV v [] = v := rfl
@[simp] theorem wipeV_cons {v : List Sl} {i : Nat} {is : List Nat} : wipeV v (i :: is) = (wipeV v is).set i .u := rfl
theorem rangeI_map : ∀ (n k : Nat), rangeI k n = (List.range n).map fun (i : Nat) => ((k + i : Nat) : Int)
  | 0, k => rfl
  | n + 1, k => by
    show ((k : Int) :: rangeI (k + 1) n) = _
    have e : ((k : Int) + 1) = ((k + 1 : Nat) : Int) := by omega
    rw [e, rangeI_map n (k + 1), List.range_succ_eq_map, List.map_cons, List.map_map]
    congr 1
    apply List.map_congr_left
    intro i _
    show ((k + 1 + i : Nat) : Int) = ((k + (i + 1) : Nat) : Int)
    rw [show k + 1 + i = k + (i + 1) by omega]
/-- range(e): the numbers below -/
theorem ciR1_n {c : CE} {s s1 : S} {n : Nat} (h : c s = .ok (.d (.int (n : Nat))) s1) (hn : n < 1000000000) : ciR1 c s = .ok ((List.range n).map fun i : Nat => PyData.int (i : Int)) s1 := by
  rw [ciR1_s h (by omega) (by omega), Int.toNat_natCast, rangeD_eq]
  have := rangeI_map n 0
  rw [show ((0 : Nat) : Int) = 0 from rfl] at this
  rw [this, List.map_map]
  congr 1
  apply List.map_congr_left
  intro i _
  show PyData.int ((0 + i : Nat) : Int) = _
  rw [Nat.zero_add]
/-! ### what is a load -/
def nonB : D → Bool
  | .int n => decide (0 ≤ n)
  | _ => false
def geD : D → D → Bool
  | .int a, .int b => decide (b ≤ a)
  | _, _ => false
def fallD : List D → Bool
  | a :: b :: r => geD a b && fallD (b :: r)
  | _ => true
def loadB : D → Bool
  | .tuple ds => decide (1 ≤ ds.length ∧ ds.length ≤ 6) && ds.all nonB && fallD ds
  | _ => false
end Vm
namespace Vm
open PySem L2 PySem.Spec PyProof.Rows
@[simp] theorem opSortedR_s {ns : List Int} : opSortedR (.d (.list (ns.map PyData.int))) = some (.new (.l ((sortD ns).map PyData.int))) := by
  unfold opSortedR
  dsimp only
  rw [ints?_map]
  rfl
theorem perm_sum {as bs : List Int} (h : as.Perm bs) : as.sum = bs.sum := by
  induction h with
  | nil => rfl
  | cons x _ ih => rw [List.sum_cons, List.sum_cons, ih]
  | swap x y l => simp only [List.sum_cons]; omega
  | trans _ _ h1 h2 => exact h1.trans h2
theorem sum_nonneg : ∀ {xs : List Int}, (∀ x, x ∈ xs → 0 ≤ x) → 0 ≤ xs.sum
  | [], _ => Int.le_refl 0
  | x :: xs, h => by
    rw [List.sum_cons]
    have := h x (List.mem_cons_self ..)
    have := sum_nonneg fun y hy => h y (List.mem_cons_of_mem x hy)
    omega
theorem mem_le_sum : ∀ {xs : List Int}, (∀ x, x ∈ xs → 0 ≤ x) → ∀ x, x ∈ xs → x ≤ xs.sum
  | y :: xs, h, x, hx => by
    rw [List.sum_cons]
    have h0 := h y (List.mem_cons_self ..)
    have h1 := sum_nonneg fun z hz => h z (List.mem_cons_of_mem y hz)
    rcases List.mem_cons.mp hx with rfl | hx
    · omega
    · have := mem_le_sum (fun z hz => h z (List.mem_cons_of_mem y hz)) x hx
      omega
end Vm
namespace Vm
open PySem L2 PySem.Spec PyProof.Rows
/-! ### texts made of plain signs -/
def Asc (z : Str) : Prop := ∀ c ∈ z.cps.toList, c < 16 ^ 8
theorem Asc.app {x y : Str} (h : Asc x) (q : Asc y) : Asc (x ++ y) := fun c hc => by
  rcases mem_cps_append.mp hc with hc | hc
  · exact h c hc
  · exact q c hc
theorem Kd.str {β : Bool} {z : Str} {n : Nat} (h : Asc z) (hn : z.length ≤ n) : Kd β (10 * n + 2) 0 (.str z) := by
  have e := StrLaws.reprText_len z h
  refine ⟨?_, rfl, Nat.le_refl _, fun _ => rfl, fun _ => rfl⟩
  show (reprText z).length ≤ _
  omega
theorem Kd.dict {n m : Nat} {es : List (D × D)} (h : ∀ p, p ∈ es → Kd false n 0 p.1 ∧ Kd false n m p.2) : Kd false (es.length * (2 * n + 4) + 3) (m + 1) (.dict es) := by
  have go : ∀ es : List (D × D), (∀ p, p ∈ es → Kd false n 0 p.1 ∧ Kd false n m p.2) → ((PyData.shownKv es).map (·.length)).sum ≤ es.length * (2 * n + 2) ∧ (PyData.shownKv es).length = es.length ∧ PyData.showableKv es = true ∧ PyData.depthKv es ≤ m ∧ noLsKv es = true := by
    intro es
    induction es with
    | nil => exact fun _ => ⟨Nat.zero_le _, rfl, rfl, Nat.zero_le _, rfl⟩
    | cons p es ih =>
      intro h
      obtain ⟨k, v⟩ := p
      obtain ⟨a, b, c, d, e⟩ := ih fun q hq => h q (List.mem_cons_of_mem _ hq)
      obtain ⟨h1, h2⟩ := h (k, v) (List.mem_cons_self ..)
      have l1 := h1.len
      have l2 := h2.len
      have dk := h1.dp
      refine ⟨?_, ?_, ?_, ?_, ?_⟩
      · simp only [PyData.shownKv, List.map_cons, List.sum_cons, List.length_cons, Nat.add_mul]
        rw [Str.length_append, Str.length_append]
        have : ((": " : String) : Str).length = 2 := rfl
        have l1 : k.shown.length ≤ n := l1
        have l2 : v.shown.length ≤ n := l2
        omega
      · simp only [PyData.shownKv, List.length_cons, b]
      · simp only [PyData.showableKv, c, h1.sh, h2.sh, Bool.and_self]
      · simp only [PyData.depthKv]
        have d1 : k.depth ≤ 0 := dk
        have d2 : v.depth ≤ m := h2.dp
        omega
      · have q1 : noLs k = true := h1.nl rfl
        have q2 : noLs v = true := h2.nl rfl
        simp only [noLsKv, e, q1, q2, Bool.and_self]
  obtain ⟨a, b, c, d, e⟩ := go es h
  refine ⟨?_, by simp only [PyData.showable]; exact c, Nat.succ_le_succ d, (fun z => nomatch z), fun _ => by rw [noLs]; exact e⟩
  simp only [PyData.shown]
  have := dictText_len_le (PyData.shownKv es)
  have e2 : es.length * (2 * n + 4) = es.length * (2 * n + 2) + 2 * es.length := by
    rw [show 2 * n + 4 = 2 * n + 2 + 2 by omega, Nat.mul_add, Nat.mul_comm es.length 2]
  omega
@[simp] theorem opStr_i {i : Int} (h : okr (.int i) = true) : opStr (.d (.int i)) = some (.d (.str (PyData.int i).shown)) := by
  show (if okr (.int i) = true then some (PyData.int i).shown else none).map _ = _
  rw [if_pos h]
  rfl
theorem Kd.ok {n m : Nat} {d : D} (h : Kd true n m d) (x : n ≤ 16000000) (y : m ≤ 60) : Vm.okr d = true := by
  unfold Vm.okr
  rw [Bool.and_eq_true, Bool.and_eq_true, decide_eq_true_eq]
  exact ⟨⟨okd_iff.mpr ⟨h.pl rfl, Nat.le_trans h.dp y⟩, h.sh⟩, Nat.le_trans h.len x⟩
theorem Kd.okd {n m : Nat} {d : D} (h : Kd true n m d) (y : m ≤ 60) : Vm.okd d = true := okd_iff.mpr ⟨h.pl rfl, Nat.le_trans h.dp y⟩
/-- a tuple of ints -/
theorem Kd.ints {b : Bool} {k : Nat} {ns : List Int} (hk : k ≤ 1918) (h : ∀ i, i ∈ ns → Bs k i) : Kd b (ns.length * (k + 4) + 2) 1 (.tuple (ns.map PyData.int)) := by
  have := Kd.tuple (b := b) (n := k + 2) (m := 0) (ds := ns.map PyData.int) fun d hd => by
    obtain ⟨i, hi, rfl⟩ := List.mem_map.mp hd
    exact Kd.int (h i hi) hk
  rw [List.length_map] at this
  exact this
@[simp] theorem mulNegOne {i : Int} : -1 * i = -i := by omega
end Vm
namespace Vm
open PySem L2 PySem.Spec PyProof.Rows
def opRevA : Od → Option Rv
  | .d (.list ds) => some (.new (.l ds.reverse))
  | .d (.tuple ds) => some (.d (.tuple ds.reverse))
  | _ => none
@[simp] theorem opRevA_l {ds : List D} : opRevA (.d (.list ds)) = some (.new (.l ds.reverse)) := Eq.trans rfl rfl
@[simp] theorem opRevA_t {ds : List D} : opRevA (.d (.tuple ds)) = some (.d (.tuple ds.reverse)) := Eq.trans rfl rfl
end Vm
namespace Vm
open PySem PySem.Spec PyProof.Rows L2
/-! ### an exception that was caught is known from then on -/
section
variable {X : Cx} {pins : List (Addr × Obj)} {σ τ : L2.St} {H G : Hp} {s t : Shared} {a C : Addr} {oe : Obj}
theorem inv_know (I : Inv X pins σ H s) (I0 : Inv X pins τ G t) (h0 : t.heap.get? a = none) (na : H a = none) (J : PySem.W.InstAt s.heap a oe C none) : Inv X pins σ (upd H a (ExO a C)) s := by
  have other : ∀ {b : Addr} {u : HO}, H b = some u → upd H a (ExO a C) b = some u := fun {b u} e => by
    rw [upd_ne (ne_of_none e na)]
    exact e
  have live : ∀ {b : Addr}, (∃ o, t.heap.get? b = some o) → b ≠ a := fun {b} ⟨o, e⟩ z => by
    rw [z, h0] at e
    cases e
  have off : ∀ {b : Addr}, b ≠ a → upd H a (ExO a C) b = H b := fun {b} h => upd_ne h
  have inst : ∀ {b : Addr} {o : Obj}, X.s_0.heap.get? b = some o → b ∉ X.ex → b ≠ a := fun {b o} e hx => live (I0.base.there b o e hx)
  refine ⟨I.ok, I.os, I.bare, ⟨I.base.keep, I.base.slot, fun b o e n hx => ?_, I.base.there, fun b xs e => other (I.base.tups b xs e), fun b o u e => other (I.base.frzs b o u e), fun b ps e => ?_⟩, I.loc, I.cell, ?_, fun y c e => ?_, fun p hp => ?_, fun b u e => ?_, I.len⟩
  · rw [off (inst e hx)]
    exact I.base.free b o e n hx
  · obtain ⟨more, z⟩ := I.base.tbls b ps e
    exact ⟨more, other z⟩
  · obtain ⟨m, ⟨oL, _, _, e1, _⟩, _⟩ := I0.loc
    rw [off (live ⟨_, e1⟩)]
    exact I.free
  · obtain ⟨v, o, e1, _⟩ := I0.cell y c e
    rw [off (live ⟨_, e1⟩)]
    exact I.freeC y c e
  · obtain ⟨z1, z2, z3⟩ := I.pin p hp
    refine ⟨z1, ?_, z3⟩
    rw [off (live ⟨_, (I0.pin p hp).1⟩)]
    exact z2
  · by_cases hb : b = a
    · subst hb
      rw [upd_same] at e
      cases e
      exact ⟨⟨oe, J⟩, ⟨oe, J.at_⟩, fun h1 h2 ⟨o, j⟩ st => ⟨o, ⟨st _ j.at_, j.cls, j.no, by
        have q := j.dict
        cases hd : o.dict with
        | none => trivial
        | some dx =>
          rw [hd] at q
          exact q.elim⟩⟩⟩
    · rw [upd_ne hb] at e
      exact (I.hok b u e).stay (fun _ _ _ q => q) (fun _ q => other q) fun _ _ q => other q
end
/-- wished of an exception that 'except x as n' may take: its object is kept at j, then n goes -/
def wKeep (K : Fg) (c : Value) (i j : Nat) (Wo : WX) (D : Ends) : WX := fun cls d σ H =>
  ∃ b, PySem.W.exmOne K cls c = some b ∧ (b = true → d = none ∧ ∃ C, cls = .ref C ∧ ∀ a, H a = none → D.nx (((σ.set i (some (.ref a))).set j (some (.ref a))).set i none) (upd H a (ExO a C))) ∧ (b = false → Wo cls d σ H)
section
variable {X : Cx} {x n y : Str} {c : Value} {i j : Nat} {body : List Stmt} {np p1 p2 p3 pos pos' : Pos} {tb : WX → TS} {Wo : WX}
theorem ps_try_keep (st : X.stack = X.env :: X.outer) (fr : X.env.frame = some X.env.locals) (hN : X.N.Nodup) (hi : X.N[i]? = some n) (hj : X.N[j]? = some y) (kn : X.env.kindOf n = some .local) (ky : X.env.kindOf y = some .local) (hc : Names X x c) (tk : Takes X Wo)
    (hdn : (n == ("__debug__" : Str)) = false) (hcn : (n == ("__classdict__" : Str)) = false)
    (hb : ∀ (W : WX) (pn : List (Addr × Obj)) (xe : Value → Shared → Prop), Takes (X.tr pn xe) W → PassesOwn (model X.prog X.w) X.A X.env xe → PSs (X.tr pn xe) body (tb W)) :
    PS X (.Try body [.ExceptHandler (some (.Name x np)) (some n) [.Assign [.Name y p1] (.Name n p2) p3] pos'] [] [] pos) (fun D σ H => tb (wKeep X.K c i j Wo D) D σ H) := by
  constructor
  intro pins s σ H D I h
  have okX := I.ok
  have afr : X.A.frames = some (X.env :: X.outer) := by rw [okX.frames, st]
  have vn : Vis X.env.scope n := .inl kn
  have ln : L2.Loc X.env.scope n := .inl kn
  refine wpAny_Try_except ?_
  refine wpAny_mono ((hb (wKeep X.K c i j Wo D) (X.pn ++ pins) (fun v t1 => wpAny (model X.prog X.w) X.A (noteFrame v X.env) (fun _ t2 => wpAny (model X.prog X.w) X.A (setFlight v none) (fun _ t3 =>
    wpAny (model X.prog X.w) X.A (handleBy v X.env [.ExceptHandler (some (.Name x np)) (some n) [.Assign [.Name y p1] (.Name n p2) p3] pos']) (SP X pins D) X.xe t3) X.xe t2) X.xe t1) (fun u t z => ?_) PassesOwn.looking).run [] s σ H D (I.toTry _) h) (fun fl t hz => ?_) (fun v t z => z)
  · obtain ⟨a, B, tI, pins', τ, G, cls, d, rfl, J', nb, up, sky, na, os, ag, b, hb1, hyes, hno⟩ := z
    have J : Inv X pins τ G tI := J'.ofTry okX
    have sky2 : Sky B (X.env :: X.outer) a (Zc cls d) X.env.locals t.heap := by rw [← st]; exact sky
    show wpAny (model X.prog X.w) X.A (noteFrame (.ref a) X.env) _ _ _
    refine Sky.land Zc.steady afr fr sky2 fun g1 fl1 up1 => ?_
    have J1 : Inv X pins τ G { t with heap := g1 } := J.landed nb fl1.1 (up.trans up1) os ag
    obtain ⟨oe1, vs1, at1, zc1, dd1⟩ := fl1.there
    have aFr : a ∉ frs (X.env :: X.outer) := fun hm => by
      obtain ⟨_, o', e', hnf⟩ := fl1.2.2.1.mem hm
      rw [at1] at e'
      cases e'
      exact hnf _ dd1
    have aL : a ≠ X.env.locals := fun z => aFr (List.mem_filterMap.mpr ⟨X.env, List.mem_cons_self, by rw [fr, z]⟩)
    have aF : a ∉ X.fs := fun hm => by
      obtain ⟨e, he, q⟩ := List.mem_filterMap.mp hm
      exact aFr (List.mem_filterMap.mpr ⟨e, List.mem_cons_of_mem _ he, q⟩)
    have aNew : tI.heap.get? a = none := by
      cases q : tI.heap.get? a with
      | none => rfl
      | some o =>
        have e1 := nb a o q (by rw [st]; exact aFr)
        rw [fl1.2.1] at e1
        cases e1
    have S1 := J1.suite at1 dd1 na aL aF
    refine wpAny_handleBy_cons (codeAny_handlers_test ?_) (by intro q; cases q)
    have ty1 : PySem.W.Looks (model X.prog X.w) g1 (typeOf (.ref a)) cls := fun A Q E s k q => wpAny_typeOf_ref (k _ _ at1) (by rw [zc1.1]; exact q)
    have ma := PySem.W.exm_one (M := model X.prog X.w) (J1.kIn) ty1 hb1
    have tst : ∀ {Q : Value → Shared → Prop} {E : Value → Shared → Prop}, Q c { t with heap := g1 } → wpAny (model X.prog X.w) (X.A.mark (some (.ref a))) (eval (.Name x np) X.env) Q E { t with heap := g1 } := fun {Q E} q => by
      obtain ⟨g, nd, hm | ⟨hm, hv, hnn⟩⟩ := hc
      · exact ld_glob (X := X.suite a ((a, oe1) :: (X.pn ++ pins))) S1 g hm q nd
      · exact ld_blt (X := X.suite a ((a, oe1) :: (X.pn ++ pins))) S1 g hm hv q hnn nd
    refine tst (ma.here ?_)
    cases b with
    | true =>
      refine codeAny_handlers_suite_as ?_
      refine HandSPX.lands_againZ fl1 fun g2 fl2 up2 => ?_
      have J2 : Inv X pins τ G { t with heap := g2 } := J.landed nb fl2.1 ((up.trans up1).trans up2) os ag
      obtain ⟨oe2, vs2, at2, zc2, dd2⟩ := fl2.there
      have S2 := J2.suite at2 dd2 na aL aF
      obtain ⟨ed, CC, ec, hgo⟩ := hyes rfl
      subst ed ec
      refine store_ok (X := X.suite a ((a, oe2) :: (X.pn ++ pins))) (v := .ref a) S2 hN hi ln rfl (fun s5 S5 => ?_) (.inr kn)
      have keep : PSs (X.suite a ((a, oe2) :: (X.pn ++ pins))) [.Assign [.Name y p1] (.Name n p2) p3] _ := pss_one (ps_set (X := X.suite a ((a, oe2) :: (X.pn ++ pins))) (i := j) hN hj (.inl ky) (pe_var (X := X.suite a ((a, oe2) :: (X.pn ++ pins))) (i := i) (pos := p2) hi vn hdn hcn) rfl (.inr ky))
      refine wpAny_mono (keep.run [] s5 _ G { nx := fun σ' H' => σ' = ((τ.set i (some (.ref a))).set j (some (.ref a))) ∧ H' = G, rt := fun _ _ => False } S5 ?_) (fun f s6 hz6 => ?_) (fun _ _ z => False.elim z)
      · have hl : i < τ.length := by
          rw [J2.len]
          exact (List.getElem?_eq_some_iff.mp hi).1
        exact ⟨.ref a, List.getElem?_set_self hl, rfl, rfl⟩
      · cases f with
        | next =>
          obtain ⟨σ6, H6, S6, e1, e2⟩ := hz6
          subst e1 e2
          refine gone_ok (X := X.suite a ((a, oe2) :: (X.pn ++ pins))) S6 hN hi kn fun s7 S7 => ?_
          have hp := S7.pin (a, oe2) (List.mem_append.mpr (.inl List.mem_cons_self))
          have JJ : PySem.W.InstAt s7.heap a oe2 CC none := by
            obtain ⟨oc, od, oda, osl⟩ := oe2
            obtain ⟨h1, h2⟩ := zc2
            dsimp only at h1 h2 dd2
            subst h1 h2 dd2
            exact ⟨hp.1, rfl, rfl, trivial⟩
          exact ⟨_, _, inv_know (S7.unsuite okX) J aNew na JJ, hgo a na⟩
        | brk =>
          obtain ⟨_, _, _, q6⟩ := hz6
          exact q6.elim
        | cont =>
          obtain ⟨_, _, _, q6⟩ := hz6
          exact q6.elim
        | ret u =>
          obtain ⟨_, _, _, _, _, q6⟩ := hz6
          exact q6.elim
    | false =>
      show wpAny _ X.A (handleBy (.ref a) X.env []) _ _ _
      refine wpAny_handleBy_nil ?_
      obtain ⟨k1, k2, k3, o9, v9, T9, oT9, t9, he9, hz9, hd9, h19, hr9⟩ := id fl1
      unfold PySem.passOn
      refine wpAny_bind (wpAny_field he9 hd9 h19 ?_)
      rw [if_neg (show ¬ ((Value.ref T9 == Value.none) = true) from by simp)]
      have up9 : wpAny (model X.prog X.w) X.A (setFlight (.ref a) X.env.frame) (fun _ t4 => wpAny (model X.prog X.w) X.A (throw (.ref a) : Sem Flow) (SP X pins D) X.xe t4) X.xe { t with heap := g1 } := by
        rw [fr]
        refine HandSPX.setFlight_upZ fl1 fun g4 hh4 up4 => wpAny_throw (tk _ _ ?_)
        exact ⟨a, B, tI, pins, τ, G, cls, d, rfl, J, nb, (up.trans up1).trans up4, .inr (.inr (by rw [st]; exact hh4)), na, os, ag, hno rfl⟩
      first
        | exact wpAny_bind (wpAny_pure (wpAny_bind up9))
        | exact wpAny_bind up9
  · cases fl with
    | next =>
      obtain ⟨τ, G, J', q⟩ := hz
      exact wpAny_execs_nil ⟨τ, G, J'.ofTry okX, q⟩
    | brk =>
      obtain ⟨τ, G, J', q⟩ := hz
      exact ⟨τ, G, J'.ofTry okX, q⟩
    | cont =>
      obtain ⟨τ, G, J', q⟩ := hz
      exact ⟨τ, G, J'.ofTry okX, q⟩
    | ret u =>
      obtain ⟨v, τ, G, J', r, q⟩ := hz
      exact ⟨v, τ, G, J'.ofTry okX, r, q⟩
end
end Vm
namespace Vm
open PySem PySem.Spec PyProof.Rows L2
/-! ### isinstance of an exception that was kept -/
/-- the classes of the program's exceptions -/
def isSub (m n : String) : Bool := m == n || n == "BallError" || n == "ValueError"
def rIsX (K : Fg) : List V → Hp → VK → Prop := fun xs H Q => ∃ (a C : Addr) (c : V) (cv : Value) (b : Bool), xs = [.ref a, c] ∧ H a = some (ExO a C) ∧ ExcC K C ∧ ClsV c cv ∧ PySem.W.kitOne K (.ref C) cv = some b ∧ Q (.bl b) H
theorem call_isX {X : Cx} : CallR X (.builtin "isinstance") (rIsX X.K) := by
  intro pins s σ H xs us Q I r h
  obtain ⟨a, C, c, cv, b, rfl, hH, cl, k, e, q⟩ := h
  obtain ⟨u1, u2, rfl, r1, r2⟩ := vals2 r
  have e2 := k.eq r2
  subst e2
  cases (show u1 = Value.ref a from r1)
  obtain ⟨⟨oe, J⟩, _, _⟩ := I.hok a _ hH
  exact PySem.W.kia_one (PySem.W.handS_kitx_exc cl.hg cl.hk cl.hs cl.hd cl.ha cl.hn cl.ht cl.hm) I.kIn J e (fun z => nomatch z) fun tk => ⟨.bl b, H, I.tok tk, rfl, q⟩
/-- what isinstance says of the known exceptions and the class x -/
structure IsF (K : Fg) (mg : Str → Option Value) (ec : EC) (x : Str) (n : String) : Prop where
  ex : ∃ v c, ClsV v c ∧ (mg x = some c ∨ (mg x = none ∧ bootBuiltins x = some c ∧ x ≠ "__name__")) ∧ ∀ m, m ∈ ec.X → PySem.W.kitOne K (.ref (ec.f m)) c = some (isSub m n)
theorem clsV_rel {v : V} {c : Value} (h : ClsV v c) : RelV v c := by
  cases h <;> rfl
theorem isF_own {K : Fg} {mg : Str → Option Value} {ec : EC} {x : Str} {n : String} {D : Addr} (h : mg x = some (.ref D)) (k : ∀ m, m ∈ ec.X → PySem.W.kitOne K (.ref (ec.f m)) (.ref D) = some (isSub m n)) : IsF K mg ec x n := ⟨_, _, .own D, .inl h, k⟩
theorem isF_ty {K : Fg} {mg : Str → Option Value} {ec : EC} {x : Str} {n T : String} (h : mg x = none) (hb : bootBuiltins x = some (.type T)) (hn : x ≠ "__name__") (k : ∀ m, m ∈ ec.X → PySem.W.kitOne K (.ref (ec.f m)) (.type T) = some (isSub m n)) : IsF K mg ec x n := ⟨_, _, .ty T, .inr ⟨h, hb, hn⟩, k⟩
theorem pe_cn {X : Cx} {x : Str} {v : V} {c : Value} {pos : Pos} (hg : Gl X x) (cv : ClsV v c) (h : X.mg x = some c ∨ (X.mg x = none ∧ bootBuiltins x = some c ∧ x ≠ "__name__")) (hd : (x == ("__debug__" : Str)) = false) : PE X (.Name x pos) (tC v) := by
  rcases h with h | ⟨h1, h2, h3⟩
  · exact pe_glob hg h (clsV_rel cv) hd
  · exact pe_bltn hg h1 h2 (clsV_rel cv) h3 hd
def cIsX (i : Nat) (n : String) : CE := fun s => match s.v[i]? with
  | some (.x m) => .ok (.d (.bool (isSub m n))) s
  | _ => .bad
/-- x is None, x holds a caught exception, or a value -/
def cIsN (i : Nat) : CE := fun s => match s.v[i]? with
  | some (.x m) => .ok (.d (.bool false)) s
  | some (.d d) => .ok (.d (.bool (isNone d))) s
  | _ => .bad
section
variable {X : Cx} {ec : EC} {W : WX}
theorem e_isX (i : Nat) {y x : Str} {n : String} {p p1 p2 pos : Pos} (hm : X.mg "isinstance" = none) (F : IsF X.K X.mg ec x n) (C : ∀ m, m ∈ ec.X → ExcC X.K (ec.f m)) (hN : X.N[i]? = some y := by rfl) (hv : Vis X.env.scope y := by first | exact Or.inl rfl | exact Or.inr (Or.inl rfl) | exact Or.inr (Or.inr rfl)) (hd : (y == ("__debug__" : Str)) = false := by decide)
    (hcd : (y == ("__classdict__" : Str)) = false := by decide) (hg : Gl X "isinstance" := by rfl) (hg2 : Gl X x := by rfl) (hd2 : (x == ("__debug__" : Str)) = false := by decide) (h0 : starEach [Expr.Name x p2] X.env = (false, eval (Expr.Name x p2) X.env) :: starEach [] X.env := by rfl)
    (h1 : starEach [Expr.Name y p1, .Name x p2] X.env = (false, eval (.Name y p1) X.env) :: starEach [.Name x p2] X.env := by rfl) (h2 : (backTo pos (starEach [Expr.Name x p2] X.env)).any (·.1) = false := by rfl) : Ex X ec W (.Call (.Name "isinstance" p) [.Name y p1, .Name x p2] [] pos) (cIsX i n) := by
  obtain ⟨v, c, cv, nm, k⟩ := F.ex
  refine (pe_callB call_isX hg hm boot_isinstance (pa_cons (pe_var hN hv hd hcd) (pa_cons (pe_cn hg2 cv nm hd2) pa_nil h0) h1) (by decide) (by decide) h1 h2).imp fun σ H Q h => ?_
  obtain ⟨w, s, rfl, hr, h⟩ := h
  unfold cIsX at h
  split at h
  · rename_i m e
    obtain ⟨hm, a, e1, e2, e3⟩ := hr.slot i _ e
    exact ⟨.ref a, e1, a, ec.f m, v, c, isSub m n, rfl, e3, C m hm, cv, k m hm, h (.bl _) w (Le.refl w) hr (.bl _) .d⟩
  · exact h.elim
theorem isN_rd {i : Nat} {σ : L2.St} {H : Hp} {Q : VK} (h : rd X.K ec W (cIsN i) σ H Q) : L2.tOp (rIsV false) (tVar i) (tC .non) σ H Q := by
  obtain ⟨w, s, rfl, hr, h⟩ := h
  unfold cIsN at h
  split at h
  · rename_i m e
    obtain ⟨hm, a, e1, e2, e3⟩ := hr.slot i _ e
    exact ⟨.ref a, e1, .inl ⟨rfl, h (.bl _) w (Le.refl w) hr (.bl _) .d⟩⟩
  · rename_i d e
    obtain ⟨v, e1, rp⟩ := hr.slot i _ e
    refine ⟨v, e1, .inl ⟨rfl, ?_⟩⟩
    have q := h (.bl (isNone d)) w (Le.refl w) hr (.bl _) .d
    have eq : isNone d = decide (v = .non) := by
      cases rp <;> simp [isNone]
    rw [← eq]
    exact q
  · exact h.elim
theorem t_isN (i : Nat) {y : Str} {p1 p2 pos : Pos} {k : Nat} (hN : X.N[i]? = some y := by rfl) (hv : Vis X.env.scope y := by first | exact Or.inl rfl | exact Or.inr (Or.inl rfl) | exact Or.inr (Or.inr rfl)) (hd : (y == ("__debug__" : Str)) = false := by decide)
    (hcd : (y == ("__classdict__" : Str)) = false := by decide) : Tx X ec W (.Compare (.Name y p1) [.Is] [.Constant .none k p2] pos) (cB (cIsN i)) :=
  (pt_cmpR op_isV (pe_var hN hv hd hcd) pe_non (by first | exact nomark _ | rfl)).imp fun σ H Q h => isN_rd (cB_rd h)
theorem takesN {X : Cx} : Takes X (fun _ _ _ _ => False) := fun _ _ ⟨_, _, _, _, _, _, _, _, _, _, _, _, _, _, _, _, z⟩ => z.elim
/-! ### try: .., except x as n: y = n -/
def cTry (L : List String) (i j : Nat) (b : CS) : CS := fun s => match b s with
  | .ex e s1 => if L.contains e = true then .nx ⟨((s1.v.set i .u).set j (.x e)).set i .u, s1.m⟩ else .bad
  | o => o
structure CatF (K : Fg) (mg : Str → Option Value) (ec : EC) (x : Str) (L : List String) : Prop where
  ex : ∃ c, (mg x = some c ∨ (mg x = none ∧ bootBuiltins x = some c ∧ x ≠ "__name__")) ∧ ∀ m, m ∈ L → m ∈ ec.X ∧ PySem.W.exmOne K (.ref (ec.f m)) c = some true
theorem s_try (L : List String) (i j : Nat) {x n y : Str} {body : List Stmt} {cb : CS} {np p1 p2 p3 pos pos' : Pos} (st : X.stack = X.env :: X.outer) (fr : X.env.frame = some X.env.locals) (hN : X.N.Nodup) (tk : Takes X W) (F : CatF X.K X.mg ec x L)
    (hb : ∀ (W : WX) (pn : List (Addr × Obj)) (xe : Value → Shared → Prop), Takes (X.tr pn xe) W → PassesOwn (model X.prog X.w) X.A X.env xe → PSs (X.tr pn xe) body (rdS X.K ec W cb))
    (hi : X.N[i]? = some n := by rfl) (hj : X.N[j]? = some y := by rfl) (kn : X.env.kindOf n = some .local := by rfl) (ky : X.env.kindOf y = some .local := by rfl) (hg : Gl X x := by rfl) (hd : (x == ("__debug__" : Str)) = false := by decide)
    (hdn : (n == ("__debug__" : Str)) = false := by decide) (hcn : (n == ("__classdict__" : Str)) = false := by decide) (hij : i ≠ j := by decide) :
    Sx X ec W (.Try body [.ExceptHandler (some (.Name x np)) (some n) [.Assign [.Name y p1] (.Name n p2) p3] pos'] [] [] pos) (cTry L i j cb) := by
  obtain ⟨c, nm, kx⟩ := F.ex
  refine (ps_try_keep (c := c) (Wo := fun _ _ _ _ => False) st fr hN hi hj kn ky ⟨hg, hd, nm⟩ takesN hdn hcn hb).imp fun D σ H h => ?_
  obtain ⟨w, s, rfl, hr, h⟩ := h
  refine ⟨w, s, rfl, hr, ?_⟩
  unfold cTry at h
  cases eb : cb s with
  | bad => rw [eb] at h; exact h
  | nx s1 => rw [eb] at h; exact h
  | rt a s1 => rw [eb] at h; exact h
  | bk s1 => rw [eb] at h; exact h
  | ct s1 => rw [eb] at h; exact h
  | ex e s1 =>
    rw [eb] at h
    by_cases hL : L.contains e = true
    · simp only [hL, if_true] at h
      obtain ⟨m1, m2⟩ := kx e (by simpa using hL)
      intro σ' w' le r
      refine ⟨true, m2, fun _ => ⟨rfl, _, rfl, fun a na => ?_⟩, fun z => nomatch z⟩
      have g := gr_new (w := w') (o := ExO a (ec.f e)) na
      have nr : a ∉ w'.r := fun m => by
        obtain ⟨o, ho⟩ := r.live m
        rw [na] at ho
        cases ho
      have r1 := ((r.grow g).set i (x := .ref a) (sl := .u) trivial).set j (x := .ref a) (sl := .x e) ⟨m1, a, rfl, nr, upd_same⟩
      exact h _ ⟨w'.G, w'.r, w'.F, upd w'.H a (ExO a (ec.f e))⟩ (le.trans g.le) (rel_wipe r1 [i])
    · simp only [hL, if_false] at h
      exact h.elim
end
end Vm
namespace Vm
open PySem L2 PySem.Spec PyProof.Rows
section
variable {X : Cx} {ec : EC} {W : WX}
/-! ### a written dict of one pair, its key reckoned -/
theorem rd_imp {c : CE} {σ : L2.St} {H : Hp} {Q Q' : VK} (h : rd X.K ec W c σ H Q) (i : ∀ x H, Q x H → Q' x H) : rd X.K ec W c σ H Q' := by
  obtain ⟨w, s, e, hr, h⟩ := h
  exact ⟨w, s, e, hr, Res.mono h (fun rv s' q x w' le r' o f => i _ _ (q x w' le r' o f)) fun _ _ q => q⟩
/-! ### two places of lists, stored one behind the other -/
end
end Vm
namespace Vm
open PySem L2 PySem.Spec PyProof.Rows
/-! ### sorted(xs), ints -/
def sortA (ns : List Int) : List Int := (sortD ns).reverse
theorem sortA_perm (ns : List Int) : (sortA ns).Perm ns := (List.reverse_perm _).trans (sortD_perm ns)
theorem sortA_pw (ns : List Int) : (sortA ns).Pairwise (· ≤ ·) := List.pairwise_reverse.mpr (sortD_pw ns)
def opSorted : Od → Option Rv
  | .d (.list ds) => (ints? ds).bind fun ns => some (.new (.l ((sortA ns).map PyData.int)))
  | _ => none
theorem s_sorted {K : Fg} : Op1S K (fun v H Q => rSortedI K [v] H Q) opSorted := by
  intro w x o rv Q hx h e q
  unfold opSorted at e
  split at e
  · obtain ⟨ns, e1, e2⟩ := Option.bind_eq_some_iff.mp e
    cases e2
    rw [ints?_eq e1] at h
    obtain ⟨p, vs, rfl, hs, ra⟩ := h.list hx
    rw [rp_ints ra] at hs
    refine ⟨p, ns, rfl, hs, fun ns' l h1 h2 hl => ?_⟩
    have e3 : ns' = sortA ns := (h1.trans (sortA_perm ns).symm).eq_of_pairwise (fun a b _ _ h1 h2 => Int.le_antisymm h1 h2) h2 (sortA_pw ns)
    rw [e3]
    exact post_lst q (rpAll_ints _) hl hx
  · cases e
end Vm
namespace Vm
open PySem PySem.Spec PyProof.Rows L2
/-! ### a lambda without parameters, handed to a def that asks it -/
def askOf (cb : CE) (v : List Sl) : List Cell → RF := fun m => match cb ⟨v, m⟩ with
  | .ok a s => .ok a s.m
  | .ex e s => .ex e s.m
  | .bad => .bad
def cAsk (ask : List Cell → RF) : CE := fun s => match s.v[0]? with
  | some Sl.f => (ask s.m).toR s.v
  | _ => .bad
abbrev Hn := (List Cell → RF) → List Cell → RF
def runH (n : Nat) (c : (List Cell → RF) → CS) : Hn := fun ask m => fin m (c ask ⟨[Sl.f] ++ List.replicate (n - 1) .u, m⟩)
def RF.noEx (v : List Sl) : RF → R Rv
  | .ok a m => .ok a ⟨v, m⟩
  | _ => .bad
def cHeard (fh : Hn) (cb : CE) : CE := fun s => (fh (askOf cb s.v) s.m).noEx s.v
abbrev EC.at (ec : EC) (w : Wd) (lf : Addr) : EC := { ec with w := w, lf := lf }
/-- the context of the asking def's body -/
abbrev zx (X : Cx) (N : List Str) (x : Str) (st : Stmt) (g : Addr) (cdv : Value) (s : Shared) (H : Hp) : Cx := cxOf C8.CX0 X.prog X.w X.K X.mg X.base N x (defScope st) g cdv X.A X.stack s H C8.E0
section
variable {X : Cx} {pins : List (Addr × Obj)} {σ : L2.St} {H : Hp} {s : Shared}
/-- the lambda is made: its code object is a new one, or stands in the table -/
theorem lam_made {T : List (Addr × Str)} {c P : Addr} {pr : Arguments} {bd : Expr} {sc : Scope} {pos : Pos} {E : Value → Shared → Prop} {Q : Value → Shared → Prop} (I : Inv X pins σ H s) (B : LamX.TabB X.base X.mg c P) (hcd : X.env.code = .ref c)
    (mT : (P, X.env.qual ++ "<lambda>") ∈ T) (one : ∀ p ∈ T, p.1 = P → p.2 = X.env.qual ++ "<lambda>") (tT : LamX.Tabs T H) (df : defaultsOf pr X.env = ([], [])) (fr : ∀ y ∈ sc.names, y.2 = .free → ∃ c, X.env.cells.lookup y.1 = some c)
    (go : ∀ (f k : Addr) (pm ctv : Value) (H1 : Hp) (s' : Shared), Inv X pins σ H1 s' → LamX.ExtN H H1 → (∀ b, H1 b = Option.none → H b = Option.none) → LamX.Tabs T H1 →
      s'.heap.get? f = some (PySem.W.kla_obj "<lambda>" (X.env.qual ++ "<lambda>") pr bd sc (cloFrom X.env.cells sc.names []) pm k ctv) → H1 f = none → f ∉ frs X.stack → H1 k = some (LamX.CodeO k (X.env.qual ++ "<lambda>")) → Q (.ref f) s') :
    wpAny (model X.prog X.w) X.A (eval (.Lambda pr bd sc pos) X.env) Q E s := by
  obtain ⟨ps, atP, trip, am⟩ := tT _ mT
  refine PySem.W.kla_eval df ?_
  have bmP : s.heap.BuiltinsAt X.mg P := B.bm.keeps I.bk
  have oP : s.heap.get? P = some { cls := .none, data := .fields ps } := I.hok P _ atP
  have out : ∀ f, s.heap.objs.size ≤ f → f ∉ frs X.stack := fun f hf z => by
    rcases List.mem_cons.mp (I.stkSub _ z) with e | e
    · have h1 := I.lt
      rw [← e] at h1
      exact Nat.lt_irrefl _ (Nat.lt_of_lt_of_le h1 hf)
    · exact I.nofs hf e
  rcases look : codeAmong pos ps.toList with _ | cv
  · refine PySem.W.kla_makeFunction (mg := X.mg) (c := c) (P := P) (ps := ps) (closure_ok fr) I.ok.glob (I.mod.glob.keeps I.bk) hcd (B.code.keeps I.bk) oP trip look B.gP bmP fun k ctv g tk hx hge hlt rec tb => ?_
    obtain ⟨k2, ok, vs, t, e2, hoc, hd, hv⟩ := rec
    cases e2
    have big : s.heap.objs.size ≤ g.objs.size := Nat.le_trans hge (Nat.le_of_lt hlt)
    have nk : H k = none := I.hok.fresh hge
    have J := LamX.inv_table (t' := tk) (more := #[rawInt pos.line, rawInt pos.col, .ref k]) (h' := g.push (PySem.W.kla_obj "<lambda>" (X.env.qual ++ "<lambda>") pr bd sc (cloFrom X.env.cells sc.names []) ((X.mg "__name__").getD .none) k ctv)) I atP
      (fun b o hb e => Heap.get?_push_of_some _ (hx b o hb e)) (Heap.get?_push_of_some _ tb) hge ⟨ok, vs, t, Heap.get?_push_of_some _ hoc, hd, hv⟩
    have grown : LamX.ExtN H (upd (upd H P (.tbl (ps ++ #[rawInt pos.line, rawInt pos.col, .ref k]))) k (LamX.CodeO k (X.env.qual ++ "<lambda>"))) := fun b o e n => by
      rw [upd_ne (ne_of_none e nk), upd_ne (fun z => n ps (Option.some.inj (e.symm.trans (by rw [z]; exact atP))))]
      exact e
    have asL : (ps ++ #[rawInt pos.line, rawInt pos.col, .ref k]).toList = ps.toList ++ [rawInt pos.line, rawInt pos.col, .ref k] := by simp
    refine go g.objs.size k ((X.mg "__name__").getD .none) ctv _ _ J grown (fun b e => ?_) (fun p hp => ?_) (Heap.get?_push_size _ rfl) ?_ (out _ big) upd_same
    · by_cases hb : b = k
      · rw [hb]
        exact nk
      · rw [upd_ne hb] at e
        by_cases hb2 : b = P
        · rw [hb2, upd_same] at e
          cases e
        · rw [upd_ne hb2] at e
          exact e
    · by_cases hb : p.1 = P
      · rw [one p hp hb, hb]
        refine ⟨_, by rw [upd_ne (ne_of_none atP nk), upd_same], by rw [asL]; exact PySem.TriplesOk_snoc _ _ _ _ trip, fun p' cv hcv => ?_⟩
        rw [asL] at hcv
        rcases LamX.among_app _ trip hcv with z | z
        · obtain ⟨c0, e1, e2⟩ := am p' cv z
          exact ⟨c0, e1, grown _ _ e2 LamX.codeO_ne⟩
        · exact ⟨k, z, upd_same⟩
      · obtain ⟨ps', a1, a2, a3⟩ := tT p hp
        refine ⟨ps', by rw [upd_ne (ne_of_none a1 nk), upd_ne hb]; exact a1, a2, fun p' cv hcv => ?_⟩
        obtain ⟨c0, e1, e2⟩ := a3 p' cv hcv
        exact ⟨c0, e1, grown _ _ e2 LamX.codeO_ne⟩
    · have n1 : g.objs.size ≠ k := Nat.ne_of_gt hlt
      have n2 : g.objs.size ≠ P := Nat.ne_of_gt (Nat.lt_of_lt_of_le (Heap.lt_size oP) big)
      rw [upd_ne n1, upd_ne n2]
      exact I.hok.fresh big
  · obtain ⟨k, e, hco⟩ := am pos cv look
    subst e
    refine PySem.W.kla_makeFunctionHit (mg := X.mg) (c := c) (P := P) (ps := ps) (closure_ok fr) I.ok.glob (I.mod.glob.keeps I.bk) hcd (B.code.keeps I.bk) oP trip look bmP fun ctv g tk hx hsz => ?_
    have J : Inv X pins σ H { s with heap := g.push (PySem.W.kla_obj "<lambda>" (X.env.qual ++ "<lambda>") pr bd sc (cloFrom X.env.cells sc.names []) ((X.mg "__name__").getD .none) k ctv), toks := tk } := I.kept fun b o e => Heap.get?_push_of_some _ (hx b o e)
    exact go g.objs.size k ((X.mg "__name__").getD .none) ctv H _ J (LamX.ExtN.refl H) (fun b e => e) tT (Heap.get?_push_size _ rfl) (I.hok.fresh hsz) (out _ hsz) hco
/-- the asking def calls what it got -/
theorem pe_asks {N : List Str} {x : Str} {st : Stmt} {g f c' : Addr} {cdv pm ctv : Value} {pr : Arguments} {bd : Expr} {sc : Scope} {k : Nat} {a : Str} {pn : List (Addr × Obj)} {xe : Value → Shared → Prop} {W : WX} {tb : XK → TE} {p1 p2 : Pos}
    (I : Inv X pins σ H s) (L : LamX.LamS X.env.scope sc) (of : s.heap.get? f = some (PySem.W.kla_obj "<lambda>" (X.env.qual ++ "<lambda>") pr bd sc (cloFrom X.env.cells sc.names []) pm c' ctv)) (nf : H f = none) (nfr : f ∉ frs X.stack)
    (bind : bindArgs (PySem.W.kla_fn "<lambda>" (X.env.qual ++ "<lambda>") pr bd sc (cloFrom X.env.cells sc.names []) pm (.ref c') ctv) ⟨[], []⟩ = pure [])
    (tk : Takes ((zx X N x st g cdv s H).tr pn xe) W) (hr : Rg (k + 1) (X.A.deeper (envOfC x (defScope st) s.heap.objs.size g cdv)))
    (hbody : ∀ (A : Around) (outer : List Env) (t : Shared) (G : Hp) (E : XK), Rg k (A.deeper (LamX.lamEnv X sc t.heap.objs.size f c')) → PE (LamX.lamCx X A outer t G E sc f c') bd (tb E))
    (hN : N[0]? = some a) (hv : Vis (defScope st) a) (hd : (a == ("__debug__" : Str)) = false) (hcd : (a == ("__classdict__" : Str)) = false) :
    PE ((zx X N x st g cdv s H).tr pn xe) (.Call (.Name a p1) [] [] p2)
      (fun τ G Q => τ[0]? = some (some (.ref f)) ∧ G c' = some (LamX.CodeO c' (X.env.qual ++ "<lambda>")) ∧ tb (fun cls d H' => W cls d τ H') σ G Q) := by
  constructor
  intro pinsZ sZ τ G Q IZ h
  obtain ⟨hs, hc, ht⟩ := h
  refine wpAny_Call_Name_kw (thn ((pe_var (pos := p1) (i := 0) hN hv hd hcd).run pinsZ sZ τ G (fun v H1 => v = .ref f ∧ H1 = G) IZ ⟨.ref f, hs, rfl, rfl⟩) fun u s1 ⟨v, H1, I1, r1, q1⟩ => ?_)
  obtain ⟨ev, eH⟩ := q1
  subst ev
  rw [eH] at I1
  obtain rfl : u = Value.ref f := r1
  have of1 : s1.heap.get? f = some (PySem.W.kla_obj "<lambda>" (X.env.qual ++ "<lambda>") pr bd sc (cloFrom X.env.cells sc.names []) pm c' ctv) := I1.base.keep f _ of nf nfr (fun z => nomatch (show f ∈ ([] : List Addr) from z))
  refine PySem.W.callWith_F0 ⟨_, _, _, _, of1⟩ ?_
  have un : Un (frs X.stack) [] H G s.heap s1.heap := I1.base
  obtain ⟨⟨oc, vs, t, hoc, hdc, hvc⟩, _, _⟩ := I1.hok c' _ hc
  have rc : codeAny (model X.prog X.w) (X.A.deeper (envOfC x (defScope st) s.heap.objs.size g cdv)) (.call (.ref f) ⟨[], []⟩) (CR (L2.CX X.prog X.w) (envOfC x (defScope st) s.heap.objs.size g cdv :: X.stack) X.prog X.w G s1 Q (fun cls d H' => W cls d τ H')) s1 := by
    refine PySem.W.kla_callFunE hr.r.depth of1 rfl L.co L.gen rfl ⟨c', oc, vs, t, rfl, hoc, hdc, hvc⟩ ?_
    rw [bind]
    refine wpAny_pure (wpAny_newFunctionEnv (fun y hy => (L.own y hy).2) (fun y hy => absurd hy (by simp)) (fun h₁ hns hsb => ⟨I1.nolimit.fresh _ hsb, ?_⟩) L.kind)
    show codeAny _ _ (.expr bd (LamX.lamEnv X sc s1.heap.objs.size f c')) _ _
    have kp : ∀ b o, s1.heap.get? b = some o → h₁.get? b = some o := fun b o e => hsb.extBut b o (Nat.ne_of_lt (Heap.lt_size e)) (Heap.get?_push_of_some _ e)
    have J : Inv (LamX.lamCx X (X.A.deeper (envOfC x (defScope st) s.heap.objs.size g cdv)) (envOfC x (defScope st) s.heap.objs.size g cdv :: X.stack) s1 G (fun cls d H' => W cls d τ H') sc f c') [] σ G { s1 with heap := h₁, toks := s1.toks + ([] : List (Str × Value)).length } :=
      LamX.lam_start2 I L I1.env0 hr.r.hd un hns kp
    refine PySem.W.kla_codeExpr (wpAny_mono ((hbody _ _ s1 G (fun cls d H' => W cls d τ H') ⟨hr.r.deeper _, hr.g⟩).run [] _ _ G Q J ht) (fun v t hq => ?_) fun e t hq => hq)
    obtain ⟨w', H', J', rv, q⟩ := hq
    exact ⟨w', H', J'.os, J'.bare, J'.base, J'.hok, rv, q⟩
  refine wpAny_call (codeAny_mono rc fun r t hq => ?_)
  rcases r with e | (_ | u | _ | _)
  · exact passAt tk τ pinsZ G s1 e t I1 hq
  · exact False.elim hq
  · first | exact I1.after hq | exact False.elim hq
  · first | exact I1.after hq | exact False.elim hq
  · first | exact I1.after hq | exact False.elim hq
end
/-- what the walk of the asking def's body shows -/
def HeardOk (P : Program) (wo : World) (K : Fg) (mg : Str → Option Value) (base : Heap) (ec : EC) (x a : Str) (N : List Str) (st : Stmt) (ch : (List Cell → RF) → CS) (k : Nat) : Prop :=
  ∀ (g : Addr) (cdv : Value) (A : Around) (outer : List Env) (s : Shared) (H : Hp) (w0 : Wd) (lf : Addr) (ask : List Cell → RF), Rg k (A.deeper (envOfC x (defScope st) s.heap.objs.size g cdv)) →
    (∀ {W : WX} {pn : List (Addr × Obj)} {xe : Value → Shared → Prop} {p1 p2 : Pos}, Takes ((cxOf C8.CX0 P wo K mg base N x (defScope st) g cdv A outer s H C8.E0).tr pn xe) W →
      PE ((cxOf C8.CX0 P wo K mg base N x (defScope st) g cdv A outer s H C8.E0).tr pn xe) (.Call (.Name a p1) [] [] p2) (rd K (ec.at w0 lf) W (cAsk ask))) →
    PSs (cxOf C8.CX0 P wo K mg base N x (defScope st) g cdv A outer s H C8.E0).nox (defBody st) (rdS K (ec.at w0 lf) (fun _ _ _ _ => False) (ch ask))
theorem Rel.ext_stays {ec : EC} {K : Fg} {w w' : Wd} {σ : L2.St} {s : S} (r : Rel ec K w σ s) {a : Addr} {q : Str} (e : w.H a = some (LamX.CodeO a q)) (le : Le w w') (hs : Same w'.G w'.H) : w'.H a = some (LamX.CodeO a q) := by
  have nb : NoTb (LamX.CodeO a q) := fun _ z => LamX.codeO_ne _ z
  by_cases m : a ∈ w.r
  · obtain ⟨n, hn⟩ := List.getElem?_of_mem m
    cases g : w.G a with
    | none =>
      obtain ⟨o, e1, _, e3⟩ := r.liveN hn g
      rw [e] at e1
      exact absurd (Option.some.inj e1).symm (e3.1 _ _)
    | some o =>
      have e1 := r.mem.ext _ _ g
      rw [e] at e1
      cases e1
      exact hs _ _ (le.g _ _ g)
  · exact (le.stays m e nb).2
section
variable {X : Cx} {ec : EC} {W : WX}
theorem e_heard {k : Nat} {x a : Str} {N : List Str} {st : Stmt} {ch : (List Cell → RF) → CS} {c P : Addr} {pr : Arguments} {bd : Expr} {sc : Scope} {p lpos pos : Pos} {cb : CE} (D : DefF X.K X.mg x st [a]) (Sg : FnScope N [a] (defScope st)) (HW : HeardOk X.prog X.w X.K X.mg X.base ec x a N st ch (k + 1)) (hr : Rg (k + 2) X.A)
    (B : LamX.TabB X.base X.mg c P) (hcd : X.env.code = .ref c) (mT : (P, X.env.qual ++ "<lambda>") ∈ ec.T) (one : ∀ p ∈ ec.T, p.1 = P → p.2 = X.env.qual ++ "<lambda>") (L : LamX.LamS X.env.scope sc)
    (hbody : ∀ (A : Around) (outer : List Env) (t : Shared) (G : Hp) (E : XK) (f c' : Addr), Rg k (A.deeper (LamX.lamEnv X sc t.heap.objs.size f c')) → PE (LamX.lamCx X A outer t G E sc f c') bd (rd X.K ec (fun cls d _ H => E cls d H) cb))
    (df : defaultsOf pr X.env = ([], []) := by rfl) (bind : ∀ (q : Str) (cl : List (Str × Addr)) (pm cv ctv : Value), bindArgs (PySem.W.kla_fn "<lambda>" q pr bd sc cl pm cv ctv) ⟨[], []⟩ = pure [] := by intros; rfl)
    (hg : Gl X x := by rfl) (hdb : (x == ("__debug__" : Str)) = false := by decide) (hv : Vis (defScope st) a := by first | exact Or.inl rfl | exact Or.inr (Or.inl rfl)) (hN : N[0]? = some a := by rfl) (hda : (a == ("__debug__" : Str)) = false := by decide) (hca : (a == ("__classdict__" : Str)) = false := by decide) :
    Ex X ec W (.Call (.Name x p) [.Lambda pr bd sc lpos] [] pos) (cHeard (runH N.length ch) cb) := by
  obtain ⟨g, fd, F, hm, hb⟩ := D.ex
  obtain ⟨oc, od, kV, doc, pm, an, cdv, ct, osl, rfl, lk, hci⟩ := F.ex
  constructor
  intro pins s σ H Q I h
  obtain ⟨w, sv, rfl, hrel, h⟩ := h
  refine wpAny_Call_Name_kw (ld_glob I hg hm ?_ hdb)
  refine PySem.W.callWith_K (h₀ := X.base) I.ok.mod.kin F.kp ?_ (by rfl) (by rfl)
  show wpAny _ _ (spliced ((false, eval (.Lambda pr bd sc lpos) X.env) :: backTo pos (starEach [] X.env))) _ _ s
  refine Calls.spliced_cons (lam_made I B hcd mT one (fun p hp => (hrel.mem.tab p hp).2) df (L.has I.ok) fun f c' pm' ctv H1 s1 I1 eN aN T1 hf hfn hfr hco => ?_)
  refine Calls.spliced_nil ⟨I1.kIn, ?_⟩
  have alive : ∀ {b : Addr} {o : HO}, w.H b = some o → ∃ o', H1 b = some o' := fun {b o} e => by
    cases z : H1 b with
    | some o' => exact ⟨o', rfl⟩
    | none =>
      rw [aN b z] at e
      cases e
  have le1 : Le w ⟨w.G, w.r, w.F, H1⟩ := ⟨Same.refl _, fun b o e _ => by
    by_cases n : NoTb o
    · exact ⟨o, eN b o e n, fun _ => rfl⟩
    · obtain ⟨o', e'⟩ := alive e
      exact ⟨o', e', fun z => absurd z n⟩, List.prefix_refl _, fun _ m => .inl m, rfl, fun b od u e => eN b _ e (fun _ z => by cases z)⟩
  have nvH : NV ec ⟨w.G, w.r, w.F, H1⟩ sv.m := by
    refine ⟨⟨fun t q n j ds e1 e2 => ?_, fun t p x e1 e2 => (hrel.mem.nv.1.2 t p x e1 e2).mono (fun _ _ _ z => z) fun _ hn z => eN _ _ z hn⟩, fun p hp => ?_⟩
    · obtain ⟨h1, h2⟩ := hrel.mem.nv.1.1 t q n j ds e1 e2
      refine ⟨h1, fun p' ks e3 e4 => ?_⟩
      obtain ⟨ws, k, e5, e6⟩ := h2 p' ks e3 e4
      exact ⟨ws, k, eN _ _ e5 noTb_t, e6⟩
    · rcases hrel.mem.nv.2 p hp with z | ⟨o, e, z⟩
      · exact .inl z
      · exact .inr ⟨o, eN _ _ e z.1, z⟩
  have r1 : Rel ec X.K ⟨w.G, w.r, w.F, H1⟩ σ sv := by
    refine ⟨⟨fun b o e => eN b o (hrel.mem.ext b o e) (hrel.mem.gt b o e), hrel.mem.len, hrel.mem.nd, fun n q cl e1 e2 => ?_, fun q hq => ?_, fun q hq => ⟨(hrel.mem.tab q hq).1, T1 q hq⟩, hrel.mem.inv.trans (le1.ch _), hrel.mem.gt, nvH⟩, hrel.len, fun i sl e => slOk_mono le1 (hrel.slot i sl e)⟩
    · have c0 := hrel.mem.cell n q cl e1 e2
      cases cl with
      | l ds =>
        obtain ⟨g0, vs, hv, ra⟩ := c0
        exact ⟨g0, vs, eN _ _ hv noTb_l, ra⟩
      | k ds =>
        obtain ⟨g0, vs, hv, ra⟩ := c0
        exact ⟨g0, vs, eN _ _ hv noTb_k, ra⟩
      | t ds =>
        obtain ⟨g0, vs, hv, ra⟩ := c0
        exact ⟨g0, vs, eN _ _ hv noTb_t, ra⟩
      | r ds =>
        obtain ⟨g0, vs, hv, ra⟩ := c0
        exact ⟨g0, vs, eN _ _ hv noTb_t, ra⟩
      | i n' j' ds =>
        obtain ⟨g0, vs, hv, ra⟩ := c0
        exact ⟨g0, vs, eN _ _ hv noTb_l, ra⟩
      | g x =>
        obtain ⟨g0, o1, hv, ra⟩ := c0
        exact ⟨g0, o1, eN _ _ hv ra.ntb, ra⟩
      | gone => exact c0
    · obtain ⟨z1, z2, o, z3⟩ := hrel.mem.fo q hq
      exact ⟨z1, z2, alive z3⟩
  have rc : codeAny (model X.prog X.w) X.A (.call (.ref g) ⟨[.ref f], []⟩) (CR C8.CX0 X.stack X.prog X.w H1 s1 Q C8.E0) s1 := by
    refine LamX.run_ofS (N := N) (ps := [a]) (us := [.ref f]) (vs := [.ref f]) lk hci Sg hr.r I1.env0 (.of_eq (hb [.ref f] rfl)) (.cons rfl .nil) rfl fun hr' => ?_
    refine ⟨_, (HW (g := g) (cdv := cdv) (A := X.A) (outer := X.stack) (s := s1) (H := H1) ⟨w.G, w.r, w.F, H1⟩ f (askOf cb sv.v) ⟨hr', hr.g⟩ fun {W pn xe p1 p2} tk => ?_).nox, ?_⟩
    · refine (pe_asks (tb := fun E => rd X.K ec (fun cls d _ H => E cls d H) cb) I1 L hf hfn hfr (bind _ _ _ _ _) tk ⟨hr', hr.g⟩ (fun A outer t G E hr2 => hbody A outer t G E f c' hr2) hN hv hda hca).imp fun τ G Q h => ?_
      obtain ⟨w2, s2, rfl, hr2, h⟩ := h
      unfold cAsk at h
      split at h
      rotate_left
      · exact h.elim
      · rename_i e0
        have q0 : τ[0]? = some (some (.ref f)) := hr2.slot 0 _ e0
        have le2 := hr2.mem.inv
        refine ⟨q0, Rel.ext_stays r1 hco (w' := w2.f w.F) le2 hr2.mem.ext, ?_⟩
        refine ⟨w2, ⟨sv.v, s2.m⟩, rfl, ⟨⟨hr2.mem.ext, hr2.mem.len, hr2.mem.nd, hr2.mem.cell, hr2.mem.fo, hr2.mem.tab, r1.mem.inv.trans (le2.ch _), hr2.mem.gt, hr2.mem.nv⟩, hrel.len, fun i sl e => ?_⟩, ?_⟩
        · have q := slOk_mono le2 (r1.slot i sl e)
          cases sl with
          | u => trivial
          | d x => exact q
          | c n => exact q
          | x n => exact q
          | t _ _ => exact q
          | f => exact q
          | f2 => exact q
        · have back : ∀ {w' : Wd} {s' : S}, Le w2 w' → Rel ec X.K w' σ s' → Rel (ec.at ⟨w.G, w.r, w.F, H1⟩ f) X.K w' τ ⟨s2.v, s'.m⟩ := fun {w' s'} le r' => ⟨⟨r'.mem.ext, r'.mem.len, r'.mem.nd, r'.mem.cell, r'.mem.fo, r'.mem.tab, le2.trans (le.ch _), r'.mem.gt, r'.mem.nv⟩, hr2.len, fun i sl e => slOk_mono le (hr2.slot i sl e)⟩
          unfold askOf at h
          cases eb : cb ⟨sv.v, s2.m⟩ with
          | bad => simp only [eb, RF.toR] at h; exact h
          | ex n s3 =>
            simp only [eb, RF.toR] at h
            exact fun w' le r' => h w' le (back le r')
          | ok y s3 =>
            simp only [eb, RF.toR] at h
            exact fun z w' le r' o fr => h z w' le (back le r') o fr
    · refine ⟨⟨w.G, w.r, w.F, H1⟩, ⟨[Sl.f] ++ List.replicate (N.length - [Sl.f].length) .u, sv.m⟩, rfl, rel_start (ec := ec.at ⟨w.G, w.r, w.F, H1⟩ f) (vs := [.ref f]) (as := [Sl.f]) ⟨r1.mem.ext, r1.mem.len, r1.mem.nd, r1.mem.cell, r1.mem.fo, r1.mem.tab, Le.refl _, r1.mem.gt, r1.mem.nv⟩ (Paired.cons (show SlOk (ec.at ⟨w.G, w.r, w.F, H1⟩ f) X.K ⟨w.G, w.r, w.F, H1⟩ (some (some (V.ref f))) Sl.f from rfl) .nil), ?_⟩
      refine fin_ok (ec := ec.at ⟨w.G, w.r, w.F, H1⟩ f) (E := fun _ _ _ => False) (m := sv.m) ⟨r1.mem.ext, r1.mem.len, r1.mem.nd, r1.mem.cell, r1.mem.fo, r1.mem.tab, Le.refl _, r1.mem.gt, r1.mem.nv⟩ ?_
      unfold cHeard runH at h
      show FOk _ _ _ _ _ (fin sv.m (ch (askOf cb sv.v) ⟨[Sl.f] ++ List.replicate (N.length - 1) .u, sv.m⟩))
      cases ef : fin sv.m (ch (askOf cb sv.v) ⟨[Sl.f] ++ List.replicate (N.length - 1) .u, sv.m⟩) with
      | bad => rw [ef] at h; exact h.elim
      | ex n m' => rw [ef] at h; exact h.elim
      | ok y m' =>
        rw [ef] at h
        intro z w' le mm o fr
        have m2 : Mem ec X.K w' m' := ⟨mm.ext, mm.len, mm.nd, mm.cell, mm.fo, mm.tab, r1.mem.inv.trans (le.ch _), mm.gt, mm.nv⟩
        exact h z w' (le1.trans le) (rel_mem (v := sv.v) (m := sv.m) (le1.trans le) hrel m2) o (FrR.back le1 le o fr)
  refine wpAny_call (codeAny_mono rc fun r t hq => ?_)
  rcases r with e | (_ | u | _ | _)
  · exact (show False from hq).elim
  · exact False.elim hq
  · first | exact I1.after hq | exact False.elim hq
  · first | exact I1.after hq | exact False.elim hq
  · first | exact I1.after hq | exact False.elim hq
end
end Vm
namespace Vm
open PySem L2 PySem.Spec PyProof.Rows
/-! ### defs that hold lambdas -/
theorem fn_okL {P : Program} {wo : World} {K : Fg} {mg : Str → Option Value} {base : Heap} {ec : EC} {x qual : Str} {st : Stmt} {f : Addr} {fd : FuncData} {N ps : List Str} {k : Nat} {cv : Value} (F : Fun K x qual st f fd) (S : FnScope N ps (defScope st)) (c : CS) (hcv : fd.code = cv)
    (hb : ∀ (A : Around) (outer : List Env) (s : Shared) (H : Hp) (E : XK), Rg k (A.deeper (envOfC qual (defScope st) s.heap.objs.size f cv)) → Takes (cxOf (L2.CX P wo) P wo K mg base N qual (defScope st) f cv A outer s H E) (fun cls d _ H => E cls d H) →
      PassesOwn (model P wo) (A.deeper (envOfC qual (defScope st) s.heap.objs.size f cv)) (envOfC qual (defScope st) s.heap.objs.size f cv) (cxOf (L2.CX P wo) P wo K mg base N qual (defScope st) f cv A outer s H E).xe →
      PSs (cxOf (L2.CX P wo) P wo K mg base N qual (defScope st) f cv A outer s H E) (defBody st) (rdS K ec (fun cls d _ H => E cls d H) c)) :
    FnG P wo K mg base (k + 1) f fd ps (spF K ec ps.length (runF N.length c)) := by
  obtain ⟨oc, od, kV, doc, pm, an, cdv, ct, osl, rfl, lk, hcd⟩ := F.ex
  have ec : cdv = cv := hcv
  subst ec
  refine ⟨fun vs H Q E h => h.1, fun {A out s H as us vs Q E} rg e0 bd rv h => ?_⟩
  have inS : K.In s.heap := e0.mod.kin.keeps fun b o e => (e0.bs b o e).1
  have noS : s.heap.NoLimit := e0.mod.nolimit.keeps fun b o e => (e0.bs b o e).1
  refine codeAny_call_function rg.r.depth (inS _ _ lk) rfl S.co S.gen rfl (PySem.W.codeRec_of inS hcd) (bd _ _ _ _ ?_)
  refine wpAny_newFunctionEnv_cells S.kind (fun ⟨n, v⟩ hy => ?_) fun env he s1 z => ?_
  · rcases S.par n (List.of_mem_zip hy).1 with q | q
    · exact .inl q
    · exact .inr ⟨q, PySem.W.cellsFrom_some _ _ _ (.inl q)⟩
  subst he
  refine ⟨noS.keeps z.toInCall.keep, codeAny_func ?_⟩
  have body := hb A out s H E ⟨rg.r.deeper _, rg.g⟩ (takes_of rfl rfl rfl rfl) (passes_of rfl)
  have J : Inv (cxOf (L2.CX P wo) P wo K mg base N qual (defScope st) f cdv A out s H E) [] (start N vs) H s1 := inv_start S rg.r.hd e0 h.1 rv z
  obtain ⟨hl, w, m, aa, rfl, hm, ao, h⟩ := h
  refine wpAny_mono (body.run [] s1 (start N vs) w.H _ J ⟨w, _, rfl, rel_start hm ao, fin_ok hm h⟩) (fun fl s2 hs => ?_) fun e s2 hs => hs
  have out : ∀ {σ' : L2.St} {H' : Hp} {v : V} {u : Value}, Inv (cxOf (L2.CX P wo) P wo K mg base N qual (defScope st) f cdv A out s w.H E) [] σ' H' s2 → RelV v u → Q v H' → L2.CE out P wo w.H s Q u s2 :=
    fun {σ' H' v u} J2 rv2 q2 => ⟨v, H', J2.os, J2.bare, J2.base, J2.hok, rv2, q2⟩
  cases fl with
  | next =>
    obtain ⟨σ', H', J2, q2⟩ := hs
    exact out (v := V.non) (u := Value.none) J2 rfl q2
  | ret u =>
    obtain ⟨v, σ', H', J2, rv2, q2⟩ := hs
    exact out J2 rv2 q2
  | brk =>
    obtain ⟨_, _, _, q2⟩ := hs
    exact q2.elim
  | cont =>
    obtain ⟨_, _, _, q2⟩ := hs
    exact q2.elim
/-- the code object and the table of a def that holds lambdas -/
structure LamF (K : Fg) (mg : Str → Option Value) (base : Heap) (ec : EC) (x q : Str) : Prop where
  ex : ∃ c P, LamX.TabB base mg c P ∧ (P, q) ∈ ec.T ∧ (∀ p ∈ ec.T, p.1 = P → p.2 = q) ∧ ∀ fa fd oc od osl, mg x = some (.ref fa) → K.lookup fa = some ⟨oc, od, .func fd, osl⟩ → fd.code = .ref c
theorem DefF.calL {P : Program} {wo : World} {K : Fg} {mg : Str → Option Value} {base : Heap} {ec : EC} {x : Str} {st : Stmt} {ps : List Str} {k : Nat} {f : Fn} (D : DefF K mg x st ps)
    (h : ∀ {fa : Addr} {fd : FuncData} {oc : Value} {od : Option Addr} {osl : Array (Option Value)}, Fun K x x st fa fd → mg x = some (.ref fa) → K.lookup fa = some ⟨oc, od, .func fd, osl⟩ → FnG P wo K mg base k fa fd ps (spF K ec ps.length f)) : Cal P wo K mg base ec x ps f k := by
  obtain ⟨fa, fd, F, hm, hb⟩ := D.ex
  obtain ⟨oc, od, kV, doc, pm, an, cdv, ct, osl, e, lk, _⟩ := F.ex
  exact ⟨fa, fd, oc, od, osl, lk, h F hm lk, hm, F.kp, .all hb⟩
/-- the law's call, where tables of code objects may grow -/
theorem walkGT {l : PySem.W.OpenLaw} {n k : Nat} {q : Program} {loose : List Str} {XP : (Str → Option Value) → Heap → Prop} {YP : World → Heap → Prop} {d : DefRec} {K : Params → PySem.W.Frag} {f : Fn}
    (hn : l.most = some n) (hn2 : n ≤ sizeLine) (hdf : d.params.defaults = []) (hr : Room k callerA) (hY : ∀ (w : World) (h : Heap), YP w h → (K w.params).In h)
    (F : ∀ (w : World) (mg : Str → Option Value) (fa : Addr) (h : Heap), YP w h → (K w.params).In h → h.Ns mainGlobals mg → mg d.name = some (.ref fa) →
      ∃ (fd : FuncData) (cs : List (Addr × Addr)) (T : List (Addr × Str)), (∀ p ∈ cs, h.get? p.2 = some { cls := .none, data := .fields #[] }) ∧ (∀ p ∈ cs, (K w.params).lookup p.2 = none) ∧ (∀ p ∈ cs, PySem.W.CodeHd h p.1 p.2) ∧ (∀ t ∈ T, ∃ p ∈ cs, p.2 = t.1) ∧
        (∀ (s : Shared) (u : Value), BindsTo s fd ⟨[u], []⟩ [("_law_script", u)]) ∧ ∀ base : Heap, (K w.params).In base → base.Ns mainGlobals mg → (∀ p ∈ cs, LamX.TabB base mg p.1 p.2) → FnG l.prog w (K w.params) mg base k fa fd ["_law_script"] (spLaw (K w.params) f T))
    (hf : ∀ ns : List Int, ns.length ≤ n → f [.d (.list (ns.map PyData.int))] [] = .ok (.d (.bool true)) []) : PySem.W.WalkO q loose XP YP l.row.toRowW d [] (fun g vs => PySem.call g vs) := by
  refine Att.attach_call hn hdf fun w s₀ s₁ mg mb fa o pm cd doc a vs ns G Y _ _ _ hmg hobj hints hlen hg => ?_
  have KX := hY w _ Y
  obtain ⟨fd, cs, TT, tb, nK, hd, hTT, hb, FF⟩ := F w mg fa _ Y KX G.T.g hmg
  have T := G.T
  have rv := vals_ints hints
  have lz := hints.length
  have l16 := Nat.le_trans hlen hn2
  have at_ : ∀ b : Addr, b ∈ cs.map (·.2) → s₁.heap.get? b = some { cls := .none, data := .fields #[] } := fun b hm => by
    obtain ⟨p, hp, rfl⟩ := List.mem_map.mp hm
    exact tb p hp
  have na : a ∉ cs.map (·.2) := fun z => by
    have e := at_ a z
    rw [hobj] at e
    exact nomatch (show Data.seq vs.toArray _ = Data.fields #[] from congrArg Obj.data (Option.some.inj e))
  have inT : ∀ p ∈ cs, p.2 ∈ cs.map (·.2) := fun p hp => List.mem_map.mpr ⟨p, hp, rfl⟩
  have main : ∀ H : Hp, (∀ p ∈ cs, H p.2 = some (.tbl #[])) → (∀ b, H b = none ∨ b ∈ cs.map (·.2) ∨ ∃ o xs, H b = some (.frz o (.lst xs))) → SqL (K w.params) H a (ns.map V.int) → HOk l.prog w H s₁.heap → (∀ b, H b ≠ none → b = a ∨ b ∈ cs.map (·.2)) → (H a ≠ none → (K w.params).lookup a = none) →
      codeAny (model l.prog w) callerA (.call (.ref fa) ⟨[.ref a], []⟩) (fun r s' => r = .ok (.ret (.bool true)) ∧ OldK s₁.heap s'.heap ∧ s'.os = s₁.os ∧ AllBare s'.gens) s₁ := by
    intro H tbH onl seq ok1 own1 own2
    have hid : ∀ {b : Addr} {o : Obj}, s₁.heap.get? b = some o → H b = none → (hidT s₁.heap H).get? b = some o := fun e z => hidT_get e z
    have nil : ∀ {b : Addr} {o : Obj}, s₁.heap.get? b = some o → (∀ us m, o.data ≠ .seq us m) → o.data ≠ .fields #[] → H b = none := fun {b o} e d1 d2 => by
      rcases z : H b with _ | u
      · rfl
      · rcases own1 b (by rw [z]; simp) with eb | eb
        · rw [eb, hobj] at e
          cases e
          exact (d1 _ _ rfl).elim
        · rw [at_ b eb] at e
          cases e
          exact (d2 rfl).elim
    have dic : ∀ {b : Addr} {o : Obj} {es : Array DictEntry} {ep : Nat}, s₁.heap.get? b = some o → o.data = .dict es ep → H b = none := fun {b o es ep} e dd =>
      nil e (fun us m z => nomatch (dd.symm.trans z)) fun z => nomatch (dd.symm.trans z)
    have nsT : ∀ {b : Addr} {mm : Str → Option Value}, s₁.heap.Ns b mm → (hidT s₁.heap H).Ns b mm := fun {b mm} ⟨o, es, ep, e, dd, r⟩ => ⟨o, es, ep, hid e (dic e dd), dd, r⟩
    have inB : (K w.params).In (hidT s₁.heap H) := fun b o e => hid (KX b o e) (by
      rcases z : H b with _ | u
      · rfl
      · rcases own1 b (by rw [z]; simp) with eb | eb
        · subst eb
          rw [own2 (by rw [z]; simp)] at e
          cases e
        · obtain ⟨p, hp, rfl⟩ := List.mem_map.mp eb
          rw [nK p hp] at e
          cases e)
    have md : Mod (K w.params) mg (hidT s₁.heap H) := ⟨inB, nsT T.g, ⟨mb, nsT T.b, T.builtins⟩, let ⟨mc, z1, z2⟩ := T.nolimit; ⟨mc, nsT z1, z2⟩⟩
    have TB : ∀ p ∈ cs, LamX.TabB (hidT s₁.heap H) mg p.1 p.2 := fun p hp => by
      have atp := tb p hp
      refine ⟨?_, ?_, fun z => ?_⟩
      · obtain ⟨o, us, file, tf, flags, tg, inF, text, tt, e1, c1, c2, c3, c4, c5, c6, c7, c8, ne⟩ := hd p hp
        refine ⟨o, us, file, tf, flags, tg, inF, text, tt, hid e1 (nil e1 (fun us m z => nomatch (c2.symm.trans z)) fun z => ?_), c1, c2, c3, c4, c5, c6, c7, c8, ne⟩
        rw [c2] at z
        cases z
        simp at c3
      · obtain ⟨bm, ob, y1, y2, y3, y4, y5, y6⟩ := T.bmain
        have ng : bm ≠ mainGlobals := fun z => by
          obtain ⟨o, es, ep, e, dd, _⟩ := T.g
          rw [z, e] at y3
          cases y3
          exact nomatch (dd.symm.trans y6)
        have np : bm ≠ p.2 := fun z => by
          rw [z, atp] at y3
          cases y3
          cases y6
        exact ⟨bm, ob, y1, y2, ng, np, hid y3 (nil y3 (fun us m z => nomatch (y6.symm.trans z)) fun z => nomatch (y6.symm.trans z)), y4, y5, y6⟩
      · obtain ⟨o, es, ep, e, dd, _⟩ := T.g
        rw [z, atp] at e
        cases e
        cases dd
    have e0 : Env0 l.prog w (K w.params) mg (hidT s₁.heap H) callerA [] s₁ H := ⟨rfl, md, fun b o e => of_hidT e, Nat.le_of_eq (hidT_size _ _), trivial, fun b z => absurd (show b ∈ ([] : List Addr) from z) (by simp), ok1, .of_eq hg⟩
    have tT : ∀ t ∈ TT, H t.1 = some (.tbl #[]) ∧ (K w.params).lookup t.1 = none := fun t ht => by
      obtain ⟨p, hp, e⟩ := hTT t ht
      rw [← e]
      exact ⟨tbH p hp, nK p hp⟩
    refine codeAny_mono ((FF _ inB (nsT T.g) TB).go (us := [.ref a]) (vs := [.ref a]) (Q := fun v _ => v = .bl true) (E := fun _ _ _ => False) ⟨hr, rfl⟩ e0 (hb s₁ (.ref a)) (.cons rfl .nil) ⟨tT, a, ns, rfl, seq, hf ns hlen, fun _ => rfl⟩) fun r s2 z => ?_
    rcases r with e | fl
    · exact (cx_none z).elim
    cases fl with
    | next => exact z.elim
    | brk => exact z.elim
    | cont => exact z.elim
    | ret u =>
      obtain ⟨v, H2, os, bare, un, ok2, rv2, ve⟩ := z
      have ve : v = .bl true := ve
      subst ve
      obtain rfl : u = Value.bool true := rv2
      have stays : ∀ b o, b ∉ cs.map (·.2) → s₁.heap.get? b = some o → s2.heap.get? b = some o := fun b o nb e => by
        rcases z : H b with _ | u
        · exact un.keep b o e z (by intro zz; exact absurd (show b ∈ ([] : List Addr) from zz) (by simp)) (by simp)
        · rcases onl b with y | y | ⟨ob, xs, y⟩
          · rw [z] at y
            cases y
          · exact absurd y nb
          · obtain ⟨e1, _⟩ := ok1 b _ y
            obtain ⟨e2, _⟩ := ok2 b _ (un.frzs b ob _ y)
            rw [e] at e1
            cases e1
            exact e2
      have more : ∀ p ∈ cs, ∃ us : Array Value, s2.heap.get? p.2 = some { cls := .none, data := .fields us } := fun p hp => by
        obtain ⟨us, y⟩ := un.tbls p.2 #[] (tbH p hp)
        exact ⟨_, ok2 p.2 _ y⟩
      refine ⟨rfl, ⟨fun b o e => ?_, fun b o e => ?_⟩, os, bare⟩
      · by_cases m : b ∈ cs.map (·.2)
        · obtain ⟨p, hp, eb⟩ := List.mem_map.mp m
          obtain ⟨us, y⟩ := more p hp
          rw [← eb] at e ⊢
          rw [tb p hp] at e
          cases e
          exact .inr (.inl ⟨((hd p hp).tab (tb p hp)).isCodeTable, rfl, #[], us, rfl, by rw [Array.empty_append]; exact y⟩)
        · exact .inl (stays b o m e)
      · by_cases m : b ∈ cs.map (·.2)
        · obtain ⟨p, hp, eb⟩ := List.mem_map.mp m
          obtain ⟨us, y⟩ := more p hp
          rw [← eb]
          exact ⟨_, y⟩
        · exact ⟨o, stays b o m e⟩
  rcases lk : (K w.params).lookup a with _ | o1
  · refine main (fun b => if b = a then some (.frz { cls := .type "list", data := .seq vs.toArray } (.lst (ns.map V.int))) else if b ∈ cs.map (·.2) then some (.tbl #[]) else none) (fun p hp => ?_) (fun b => ?_) (.inl (.inr ⟨{ cls := .type "list", data := .seq vs.toArray }, if_pos rfl⟩)) (fun b u z => ?_) (fun b z => ?_) fun _ => lk
    · exact (if_neg (show ¬ p.2 = a from fun z => na (by rw [← z]; exact inT p hp))).trans (if_pos (inT p hp))
    · by_cases e : b = a
      · exact .inr (.inr ⟨_, _, if_pos e⟩)
      · by_cases m : b ∈ cs.map (·.2)
        · exact .inr (.inl m)
        · exact .inl ((if_neg e).trans (if_neg m))
    · by_cases e : b = a
      · have z := (if_pos e).symm.trans z
        cases z
        subst e
        exact ⟨hobj, by rw [List.length_map]; exact l16, vs, _, rv, hobj⟩
      · have z := (if_neg e).symm.trans z
        by_cases m : b ∈ cs.map (·.2)
        · have z := (if_pos m).symm.trans z
          cases z
          exact at_ b m
        · exact nomatch (if_neg m).symm.trans z
    · by_cases e : b = a
      · exact .inl e
      · by_cases m : b ∈ cs.map (·.2)
        · exact .inr m
        · exact absurd ((if_neg e).trans (if_neg m)) z
  · have e := KX a o1 lk
    rw [hobj] at e
    cases e
    refine main (fun b => if b ∈ cs.map (·.2) then some (.tbl #[]) else none) (fun p hp => if_pos (inT p hp)) (fun b => ?_) (.inr ⟨_, vs.toArray, _, lk, rfl, rfl, rfl, by rw [List.size_toArray, lz]; exact l16, by simpa using rv⟩) (fun b u z => ?_) (fun b z => ?_) fun z => absurd (if_neg na) z
    · by_cases m : b ∈ cs.map (·.2)
      · exact .inr (.inl m)
      · exact .inl (if_neg m)
    · by_cases m : b ∈ cs.map (·.2)
      · have z := (if_pos m).symm.trans z
        cases z
        exact at_ b m
      · exact nomatch (if_neg m).symm.trans z
    · by_cases m : b ∈ cs.map (·.2)
      · exact .inr m
      · exact absurd (if_neg m) z
/-- what all_mk tells of a def that holds lambdas -/
theorem codeOf {K : Fg} {mg : Str → Option Value} {x : Str} {f c : Addr} {cd : Value} {oc : Value} {od an : Option Addr} {osl : Array (Option Value)} {ps : Arguments} {bd : List Stmt} {sc : Scope} {kV dc pm ct : Value} (hm : mg x = some (.ref f))
    (l : K.lookup f = some ⟨oc, od, .func (PySem.W.fnOf x x ps bd sc .none kV dc pm an cd ct), osl⟩) (e : cd = .ref c) : ∀ fa fd oc od osl, mg x = some (.ref fa) → K.lookup fa = some ⟨oc, od, .func fd, osl⟩ → fd.code = .ref c := fun fa fd oc' od' osl' h1 h2 => by
  rw [hm] at h1
  cases h1
  rw [l] at h2
  cases h2
  exact e
theorem spLaw_ofB {P : Program} {wo : World} {K : Fg} {mg : Str → Option Value} {ec : EC} {B : Heap → Prop} (hw : ec.w = bot) {x : Str} {st : Stmt} {k : Nat} {f : Fn} {fa : Addr} (D : DefF K mg x st ["_law_script"]) (hfa : mg x = some (.ref fa))
    (C : ∀ base : Heap, K.In base → base.Ns mainGlobals mg → B base → Cal P wo K mg base ec x ["_law_script"] f k) :
    ∃ fd : FuncData, (∀ (s : Shared) (v : Value), BindsTo s fd ⟨[v], []⟩ [("_law_script", v)]) ∧ ∀ base : Heap, K.In base → base.Ns mainGlobals mg → B base → FnG P wo K mg base k fa fd ["_law_script"] (spLaw K f ec.T) := by
  obtain ⟨fa', fd, F, hm, hb⟩ := D.ex
  rw [hfa] at hm
  cases hm
  obtain ⟨oc, od, kV, doc, pm, an, cdv, ct, osl, e, lk, _⟩ := F.ex
  refine ⟨fd, fun s v => .of_eq (hb [v] rfl), fun base h1 h2 h3 => ?_⟩
  obtain ⟨fa2, fd2, oc2, od2, osl2, lk2, F2, hm2, _, _⟩ := C base h1 h2 h3
  rw [hfa] at hm2
  cases hm2
  rw [lk] at lk2
  cases lk2
  exact F2.imp fun vs H Q E q => spLaw_spF hw q
theorem takesL {X : Cx} {A : Around} {outer : List Env} {t : Shared} {G : Hp} {E : XK} {sc : Scope} {f c' : Addr} : Takes (LamX.lamCx X A outer t G E sc f c') (fun cls d _ H => E cls d H) := takes_of rfl rfl rfl rfl
theorem IsF.at {K : Fg} {mg : Str → Option Value} {ec : EC} {x : Str} {n : String} (F : IsF K mg ec x n) {w : Wd} {f : Addr} : IsF K mg (ec.at w f) x n := ⟨F.ex⟩
theorem CatF.at {K : Fg} {mg : Str → Option Value} {ec : EC} {x : Str} {L : List String} (F : CatF K mg ec x L) {w : Wd} {f : Addr} : CatF K mg (ec.at w f) x L := ⟨F.ex⟩
end Vm
namespace Vm
open PySem L2
/-! ### what a def that asks tells -/
def cHeardA (L : List String) (ask : List Cell → RF) : CS :=
 (cSeq (cSet 1 (cC .none))
 (cSeq (cSet 2 (cC .none))
 (cSeq (cTry L 3 1
 (cSet 2 (cAsk ask)))
 (cSeq (cIfS (cB (cIsN 1))
 (cRet (cLst (cCons (cVar 2) cNil)))
 cNx)
 (cSeq (cSet 4 (cLst (cCons (cIsX 1 "NoShare") (cCons (cIsX 1 "NoBall") (cCons (cIsX 1 "Unlike") cNil)))))
 (cSeq (cSet 4 (cOp2 opAdd (cVar 4) (cLst (cCons (cIsX 1 "Fuller") (cCons (cIsX 1 "TooMany") (cCons (cIsX 1 "NoBack") cNil))))))
 (cSeq (cSet 4 (cOp2 opAdd (cVar 4) (cLst (cCons (cIsX 1 "NoName") (cCons (cIsX 1 "NoText") (cCons (cIsX 1 "NoRow") cNil))))))
 (cSeq (cIfS (tOr' (cB (cOp2 opNe (cMt1 "list" opCount (cVar 4) (cC (.bool true))) (cC (.int 1)))) (tNot' (cTru (cIsX 1 "ValueError"))))
 (cRet (cC (.str "odd")))
 cNx)
 (cRet (cOp2 opIx (cLst (cCons (cC (.str "share")) (cCons (cC (.str "ball")) (cCons (cC (.str "unlike")) (cCons (cC (.str "fuller")) (cCons (cC (.str "many")) (cCons (cC (.str "back")) (cCons (cC (.str "name")) (cCons (cC (.str "text")) (cCons (cC (.str "row")) cNil)))))))))) (cMt1 "list" opIndex (cVar 4) (cC (.bool true)))))))))))))
def fHeardA (L : List String) : Hn := runH 5 (cHeardA L)
@[simp] theorem cAsk_s {ask : List Cell → RF} {v : List Sl} {m : List Cell} : cAsk ask ⟨.f :: v, m⟩ = (ask m).toR (.f :: v) := rfl
theorem cTry_nx {L : List String} {i j : Nat} {b : CS} {s s' : S} (h : b s = .nx s') : cTry L i j b s = .nx s' := by
  unfold cTry
  rw [h]
theorem cTry_ex {L : List String} {i j : Nat} {b : CS} {s s' : S} {n : String} (h : b s = .ex n s') (hn : L.contains n = true) : cTry L i j b s = .nx ⟨((s'.v.set i .u).set j (.x n)).set i .u, s'.m⟩ := by
  unfold cTry
  rw [h]
  simp only [hn, if_true]
theorem cIsN_d {i : Nat} {v : List Sl} {m : List Cell} {d : D} (h : v[i]? = some (.d d)) : cIsN i ⟨v, m⟩ = .ok (.d (.bool (isNone d))) ⟨v, m⟩ := by
  unfold cIsN
  dsimp only
  rw [h]
theorem cHeard_s {fh : Hn} {cb : CE} {v : List Sl} {m m' : List Cell} {a : Rv} (h : fh (askOf cb v) m = .ok a m') : cHeard fh cb ⟨v, m⟩ = .ok a ⟨v, m'⟩ := by
  unfold cHeard
  dsimp only
  rw [h]
  rfl
end Vm
namespace Vm
open PySem L2
/-! ### lists of numbers, sorted -/
theorem sortD_len {as : List Int} : (sortD as).length = as.length := (sortD_perm as).length_eq
theorem sortD_sum {as : List Int} : (sortD as).sum = as.sum := perm_sum (sortD_perm as)
theorem sortD_mem {as : List Int} {x : Int} : x ∈ sortD as ↔ x ∈ as := (sortD_perm as).mem_iff
/-! ### loads changed -/
/-! ### equality of lists of like things -/
theorem okd_seq {ds : List D} (h : ∀ d, d ∈ ds → d.plain = true ∧ d.depth ≤ 59) : okd (.list ds) = true ∧ okd (.tuple ds) = true := by
  have h1 : PyData.plainAll ds = true := by
    induction ds with
    | nil => rfl
    | cons d ds ih =>
      rw [PyData.plainAll, (h d (List.mem_cons_self ..)).1, ih fun x hx => h x (List.mem_cons_of_mem _ hx)]
      rfl
  have h2 : PyData.depthAll ds ≤ 59 := by
    clear h1
    induction ds with
    | nil => exact Nat.zero_le _
    | cons d ds ih =>
      rw [PyData.depthAll]
      have := (h d (List.mem_cons_self ..)).2
      have := ih fun x hx => h x (List.mem_cons_of_mem _ hx)
      omega
  unfold okd
  rw [Bool.and_eq_true, decide_eq_true_eq, Bool.and_eq_true, decide_eq_true_eq]
  refine ⟨⟨by rw [PyData.plain]; exact h1, ?_⟩, by rw [PyData.plain]; exact h1, ?_⟩
  · show PyData.depthAll ds + 1 ≤ 60
    omega
  · show PyData.depthAll ds + 1 ≤ 60
    omega
end Vm
namespace Vm
open PySem L2
/-! ### the first k together -/
theorem sum_take {xs : List Int} {i : Nat} (h : i < xs.length) : (xs.take (i + 1)).sum = (xs.take i).sum + xs[i] := by
  rw [List.take_add_one, List.getElem?_eq_getElem h, List.sum_append]
  simp
theorem sum_set (a : Int) : ∀ (xs : List Int) (i : Nat) (h : i < xs.length), (xs.set i a).sum = xs.sum - xs[i] + a
  | x :: xs, 0, _ => by
    show (a :: xs).sum = (x :: xs).sum - x + a
    rw [List.sum_cons, List.sum_cons]
    omega
  | x :: xs, i + 1, h => by
    have := sum_set a xs i (by simpa using h)
    show (x :: xs.set i a).sum = (x :: xs).sum - xs[i]'(by simpa using h) + a
    rw [List.sum_cons, List.sum_cons, this]
    omega
theorem ixN {xs : List Int} {i : Nat} (h : i < xs.length) : opIx (.d (.tuple (xs.map PyData.int))) (.d (.int (i : Nat))) = some (.d (.int xs[i])) := by
  have q := opIx_ti (ns := xs) (i := (i : Nat)) (by omega) (by omega)
  rw [Int.toNat_natCast, List.getD_eq_getElem?_getD, List.getElem?_eq_getElem h, Option.getD_some] at q
  exact q
theorem ixL {xs : List Int} {i : Nat} (h : i < xs.length) : opIx (.d (.list (xs.map PyData.int))) (.d (.int (i : Nat))) = some (.d (.int xs[i])) := by
  have q := opIx_li (ns := xs) (i := (i : Nat)) (by omega) (by omega)
  rw [Int.toNat_natCast, List.getD_eq_getElem?_getD, List.getElem?_eq_getElem h, Option.getD_some] at q
  exact q
theorem rangeN_get {n i : Nat} {d : D} (h : ((List.range n).map fun i : Nat => PyData.int (i : Int))[i]? = some d) : i < n ∧ d = .int (i : Nat) := by
  have hi : i < n := by
    have := (List.getElem?_eq_some_iff.mp h).1
    simpa using this
  rw [List.getElem?_map, List.getElem?_range hi] at h
  exact ⟨hi, (Option.some.inj h).symm⟩
/-! ### loads drawn by moves -/
/-- one ball from i to j -/
def mvL (ys : List Int) (i j : Nat) : List Int := (ys.set i (ys.getD i 0 - 1)).set j ((ys.set i (ys.getD i 0 - 1)).getD j 0 + 1)
theorem mvL_len {ys : List Int} {i j : Nat} : (mvL ys i j).length = ys.length := by
  unfold mvL
  rw [List.length_set, List.length_set]
theorem getD_get {xs : List Int} {i : Nat} (h : i < xs.length) : xs.getD i 0 = xs[i] := by rw [List.getD_eq_getElem?_getD, List.getElem?_eq_getElem h, Option.getD_some]
end Vm
namespace Vm
open PySem L2
/-! ### the order of loads, in plain words -/
def Fall (xs : List Int) : Prop := ∀ a b, a < b → b < xs.length → xs.getD b 0 ≤ xs.getD a 0
theorem getD_set {xs : List Int} {i a : Nat} {v : Int} (ha : a < xs.length) : (xs.set i v).getD a 0 = if i = a then v else xs.getD a 0 := by
  rw [getD_get (by rw [List.length_set]; exact ha), List.getElem_set]
  split
  · rfl
  · rw [getD_get ha]
theorem mvL_get {ys : List Int} {i j a : Nat} (hi : i < ys.length) (hj : j < ys.length) (hij : i ≠ j) (ha : a < ys.length) : (mvL ys i j).getD a 0 = ys.getD a 0 - (if a = i then 1 else 0) + (if a = j then 1 else 0) := by
  have ha' : a < (ys.set i (ys.getD i 0 - 1)).length := by rw [List.length_set]; exact ha
  unfold mvL
  rw [getD_set ha', getD_set hj, getD_set ha, if_neg hij]
  by_cases h1 : j = a
  · subst h1
    have h3 : ¬ j = i := fun z => hij z.symm
    simp [hij, h3] <;> omega
  · have h4 : ¬ a = j := fun z => h1 z.symm
    by_cases h2 : i = a
    · subst h2
      simp [h1, hij] <;> omega
    · have h3 : ¬ a = i := fun z => h2 z.symm
      simp [h1, h2, h3, h4] <;> omega
theorem sum_takeD {xs : List Int} {i : Nat} (h : i < xs.length) : (xs.take (i + 1)).sum = (xs.take i).sum + xs.getD i 0 := by
  rw [sum_take h, getD_get h]
/-- ys is no emptier: its first numbers are together no fewer -/
def Maj (xs ys : List Int) : Prop := ∀ k, k ≤ xs.length → (xs.take k).sum ≤ (ys.take k).sum
/-- the next move: to the first box that lacks, from the last one ahead that has more -/
structure Nx (xs ys : List Int) (i j : Nat) : Prop where
  ij : i < j
  jn : j < ys.length
  lack : ys.getD j 0 < xs.getD j 0
  fst : ∀ k, k < j → ¬ ys.getD k 0 < xs.getD k 0
  more : xs.getD i 0 < ys.getD i 0
  lst : ∀ k, i < k → k < j → ¬ xs.getD k 0 < ys.getD k 0
section
variable {xs ys : List Int} {i j : Nat}
theorem Nx.fall (h : Nx xs ys i j) (hl : xs.length = ys.length) (fx : Fall xs) (fy : Fall ys) : Fall (mvL ys i j) := fun a b hab hb => by
  rw [mvL_len] at hb
  have hj := h.jn
  have hij := h.ij
  rw [mvL_get (by omega) hj (by omega) hb, mvL_get (by omega) hj (by omega) (by omega)]
  have e1 := fy a b hab hb
  have e2 := h.lack
  have e3 := h.more
  have e4 := fx i j hij (by omega)
  have e5 : i < b → b < j → ys.getD b 0 ≤ xs.getD b 0 := fun p q => by have := h.lst b p q; omega
  have e6 : i < b → xs.getD b 0 ≤ xs.getD i 0 := fun p => fx i b p (by omega)
  have e7 : j < b → ys.getD b 0 ≤ ys.getD j 0 := fun p => fy j b p hb
  have e8 : a < j → ¬ ys.getD a 0 < xs.getD a 0 := fun p => h.fst a p
  have e9 : a < j → xs.getD j 0 ≤ xs.getD a 0 := fun p => fx a j p (by omega)
  by_cases a1 : a = i
  · subst a1
    rw [if_pos rfl, if_neg (by omega : ¬ a = j), if_neg (by omega : ¬ b = a)]
    by_cases b1 : b = j
    · subst b1
      rw [if_pos rfl]
      omega
    · rw [if_neg b1]
      by_cases b2 : b < j
      · have := e5 hab b2
        have := e6 hab
        omega
      · have := e7 (by omega)
        omega
  · rw [if_neg a1]
    by_cases b1 : b = j
    · subst b1
      have := e8 hab
      have := e9 hab
      rw [if_neg (by omega : ¬ b = i), if_pos rfl, if_neg (by omega : ¬ a = b)]
      omega
    · rw [if_neg b1]
      split <;> split <;> omega
end
/-- a list of moves leads from ys on to xs -/
def Leads : List (Nat × Nat) → List Int → List Int → Prop
  | [], ys, xs => ys = xs
  | q :: qs, ys, xs => q.1 < ys.length ∧ q.2 < ys.length ∧ ys.getD q.2 0 + 2 ≤ ys.getD q.1 0 ∧ Leads qs (sortD (mvL ys q.1 q.2)) xs
end Vm
namespace Vm
open PySem L2
def prN (q : Nat × Nat) : D := .tuple [.int (q.1 : Int), .int (q.2 : Int)]
@[simp] theorem prN_0 {q : Nat × Nat} : opIx (.d (prN q)) (.d (.int 0)) = some (.d (.int (q.1 : Int))) := rfl
@[simp] theorem prN_1 {q : Nat × Nat} : opIx (.d (prN q)) (.d (.int 1)) = some (.d (.int (q.2 : Int))) := rfl
/-! ### the next move -/
end Vm
namespace Vm
open PySem L2
/-! ### what is a share -/
/-! ### things -/
theorem ki {β : Bool} {i : Int} (h : Bs 60 i) : Kd β 62 0 (.int i) := Kd.int h (by decide)
theorem k1 {β : Bool} {d : D} {n m : Nat} (h : Kd β n m d) : Kd β (n + 4) (m + 1) (.tuple [d]) := (Kd.tuple (n := n) (m := m) fun d' hd => by
  rw [List.mem_singleton.mp hd]
  exact h).mono (by simp) (Nat.le_refl _)
theorem k3 {x : D} {a b : Int} (hx : Kd true 62 0 x) (ha : Bs 60 a) (hb : Bs 60 b) : Kd true 200 1 (.tuple [x, .int a, .int b]) := (Kd.tuple (n := 62) (m := 0) fun d hd => by
  simp at hd
  rcases hd with rfl | rfl | rfl
  · exact hx
  · exact ki ha
  · exact ki hb).mono (by simp) (by decide)
/-! ### lowest terms, from 0 on -/
def cLawLowest : CS :=
 (cSeq (cSet 2 (cCallP fMeasure (lCons (cVar 0) (lCons (cVar 1) lNil))))
 (cRet (cTup (cCons (cOp2 opDiv (cVar 0) (cVar 2)) (cCons (cOp2 opDiv (cVar 1) (cVar 2)) cNil)))))
def fLawLowest : Fn := runF 3 cLawLowest
theorem lowest_eq {t u : Int} (h : 0 ≤ t) : fLawLowest [.d (.int t), .d (.int u)] [] = fReduced [.d (.int t), .d (.int u)] [] := by
  have h1 : ¬ t < 0 := by omega
  unfold fLawLowest fReduced
  rw [runF_s, runF_s]
  simp [cLawLowest, cReduced, h1]
theorem lowest_ok {top bot : Int} {j k : Nat} (h0 : 0 ≤ top) (hb : 1 ≤ bot) (ht : Bs j top) (hk : Bs k bot) (hk2 : k ≤ 8900) :
    ∃ p q, fLawLowest [.d (.int top), .d (.int bot)] [] = .ok (.d (shD p q)) [] ∧ Sh (max j k) p q ∧ p * bot = top * q := by
  rw [lowest_eq h0]
  exact reduced_ok hb ht hk hk2
/-! ### what is a rule -/
def ratD : D → Rat
  | .tuple [.int p, .int q] => (p : Rat) / q
  | _ => 0
end Vm
namespace Vm
open PySem L2
/-! ### the rules' module -/
/-! ### weights and rules drawn -/
/-- a told rule: so many shares, none below 0, of so many bits -/
def IsRl (k n : Nat) (ds : List D) : Prop := ds.length = n ∧ ∀ d, d ∈ ds → ∃ p q, d = .tuple [.int p, .int q] ∧ Sh k p q ∧ 0 ≤ p
theorem IsRl.mono {j k n : Nat} {ds : List D} (h : IsRl j n ds) (q : j ≤ k) : IsRl k n ds := ⟨h.1, fun d hd => by
  obtain ⟨p, q', e, s, z⟩ := h.2 d hd
  exact ⟨p, q', e, s.mono q, z⟩⟩
/-! ### mixtures -/
theorem IsRl.tell {k n : Nat} {ds : List D} (h : IsRl k n ds) {d : D} (hd : d ∈ ds) : Tell k d (ratD d) ∧ 0 ≤ ratD d := by
  obtain ⟨p, q, rfl, s, p0⟩ := h.2 d hd
  have hq := rat_ne s.pos
  refine ⟨⟨p, q, rfl, s, ?_⟩, ?_⟩
  · show (p : Rat) = (p : Rat) / q * q
    grind
  · show (0 : Rat) ≤ (p : Rat) / q
    have h1 : (0 : Rat) ≤ p := Rat.intCast_nonneg.mpr p0
    have h2 := rat_pos s.pos
    refine Rat.not_lt.mp fun z => ?_
    have h3 := (Rat.mul_lt_mul_right h2).mpr z
    have h4 : (p : Rat) / q * q = p := by grind
    rw [h4, Rat.zero_mul] at h3
    exact absurd h1 (Rat.not_le.mpr h3)
/-! ### the word of an exception -/
end Vm
namespace Vm
open PySem L2
/-! ### the third pen: a list -/
def penL (cells : List Int) (at' left : Int) : Cell := .l [.list (cells.map PyData.int), .int at', .int left]
structure IsPenL (B : Nat) (p : Cell) : Prop where
  ex : ∃ cells at' left, p = penL cells at' left ∧ cells.length ≤ 63 ∧ 0 ≤ at' ∧ at' ≤ B ∧ 0 ≤ left
theorem IsPenL.mono {B C : Nat} {p : Cell} (h : IsPenL B p) (hb : B ≤ C) : IsPenL C p := by
  obtain ⟨a, b, c, h1, h2, h3, h4, h5⟩ := h.ex
  exact ⟨a, b, c, h1, h2, h3, by omega, h5⟩
@[simp] theorem setMR_penL {i : Nat} {a : List Int} {b c : Int} {s1 : S} : setMR i (.new (penL a b c)) s1 = .nx ⟨s1.v.set i (.c s1.m.length), s1.m ++ [penL a b c]⟩ := Eq.trans rfl rfl
@[simp] theorem pure_penL {a : List Int} {b c : Int} {m : List Cell} {s : S} : (RF.ok (.new (penL a b c)) m).pure s = .ok (.new (penL a b c)) s := Eq.trans rfl rfl
section
variable {cells : List Int} {at' left v : Int}
theorem gL0 : opIx (.d (.list [.list (cells.map PyData.int), .int at', .int left])) (.d (.int 0)) = some (.d (.list (cells.map PyData.int))) := rfl
theorem gL1 : opIx (.d (.list [.list (cells.map PyData.int), .int at', .int left])) (.d (.int 1)) = some (.d (.int at')) := rfl
theorem gL2 : opIx (.d (.list [.list (cells.map PyData.int), .int at', .int left])) (.d (.int 2)) = some (.d (.int left)) := rfl
theorem pL1 {w : List Sl} {r : List Cell} : putLR (.d (.int 1)) (.ref 0) (.d (.int v)) ⟨w, .l [.list (cells.map PyData.int), .int at', .int left] :: r⟩ = .nx ⟨w, .l [.list (cells.map PyData.int), .int v, .int left] :: r⟩ := putLR_s (n := 0) (k := 1) (v := .int v) (s3 := ⟨w, .l [.list (cells.map PyData.int), .int at', .int left] :: r⟩) (xs := [.list (cells.map PyData.int), .int at', .int left]) rfl (by decide) (by simp)
theorem pL2 {w : List Sl} {r : List Cell} : putLR (.d (.int 2)) (.ref 0) (.d (.int v)) ⟨w, .l [.list (cells.map PyData.int), .int at', .int left] :: r⟩ = .nx ⟨w, .l [.list (cells.map PyData.int), .int at', .int v] :: r⟩ := putLR_s (n := 0) (k := 2) (v := .int v) (s3 := ⟨w, .l [.list (cells.map PyData.int), .int at', .int left] :: r⟩) (xs := [.list (cells.map PyData.int), .int at', .int left]) rfl (by decide) (by simp)
end
/-! ### lowest terms, the third way -/
end Vm
namespace Vm
open PySem L2
@[simp] theorem opSorted_s {ns : List Int} : opSorted (.d (.list (ns.map PyData.int))) = some (.new (.l ((sortA ns).map PyData.int))) := by
  unfold opSorted
  dsimp only
  rw [ints?_map]
  rfl
/-! ### rules drawn, the third way -/
end Vm
namespace Vm
open PySem L2 PySem.Spec PyProof.Rows
/-! ### {} whose keys will be tuples -/
def cNewT : CE := fun s => .ok (.new (.t [])) s
def cNewR : CE := fun s => .ok (.new (.r [])) s
@[simp] theorem cNewT_s {s : S} : cNewT s = .ok (.new (.t [])) s := Eq.trans rfl rfl
@[simp] theorem cNewR_s {s : S} : cNewR s = .ok (.new (.r [])) s := Eq.trans rfl rfl
section
variable {X : Cx} {ec : EC} {W : WX}
/-! ### a dict that will not change any more is locked: from then on it is data -/
def tD (kvs : List (List L2.Key × D)) : D := .dict (tagT :: kvs.map fun p => (tupK p.1, p.2))
/-! ### for k in d, d a locked dict -/
def ciKeyT (c : CE) : CI := fun s => (cv c s).bind fun a s1 => match a with
  | .d (.dict ((.list [], .none) :: es)) => .ok (es.map (·.1)) s1
  | _ => .bad
end
end Vm
namespace Vm
open PySem L2 PySem.Spec PyProof.Rows
section
variable {ec : EC}
theorem cell_inN {K : Fg} {w w1 : Wd} {σ : L2.St} {s : S} {p : Addr} {c : Cell} (hg : c ≠ .gone) (hnv : NV ec ⟨w1.G, w1.r ++ [p], w1.F, w1.H⟩ (s.m ++ [c])) (i0 : Le ec.w (w.f ec.w.F)) (le : Le w w1) (r : Rel ec K w1 σ s) (hp : p ∉ w1.r ∧ ¬ w1.F p) (hf : w.H p = none) (hc : COk K w1.G w1.H p c) :
    Rel ec K ⟨w1.G, w1.r ++ [p], w1.F, w1.H⟩ σ ⟨s.v, s.m ++ [c]⟩ ∧ Le w ⟨w1.G, w1.r ++ [p], w1.F, w1.H⟩ := by
  have l2 : Le w ⟨w1.G, w1.r ++ [p], w1.F, w1.H⟩ := ⟨le.g, le.k, le.p.trans (List.prefix_append _ _), fun q hq => by
    have hq : q ∈ w1.r ++ [p] := hq
    rcases List.mem_append.mp hq with m | m
    · exact le.f q m
    · rw [List.mem_singleton.mp m]
      exact .inr hf, le.s, le.z⟩
  refine ⟨⟨⟨r.mem.ext, ?_, ?_, fun n q c' h1 h2 => ?_, fun q hq => ?_, r.mem.tab, i0.trans (l2.ch _), r.mem.gt, hnv⟩, r.len, fun i sl e => ?_⟩, l2⟩
  · show (w1.r ++ [p]).length = (s.m ++ [c]).length
    rw [List.length_append, List.length_append, r.mem.len]
    rfl
  · show (w1.r ++ [p]).Nodup
    refine List.nodup_append.mpr ⟨r.mem.nd, by simp, fun a ha b hb e => ?_⟩
    rw [List.mem_singleton.mp hb] at e
    exact hp.1 (e ▸ ha)
  · have h1 : (w1.r ++ [p])[n]? = some q := h1
    have h2 : (s.m ++ [c])[n]? = some c' := h2
    by_cases hn : n < w1.r.length
    · rw [List.getElem?_append_left hn] at h1
      rw [List.getElem?_append_left (by rw [← r.mem.len]; exact hn)] at h2
      exact r.mem.cell n q c' h1 h2
    · rw [List.getElem?_append_right (by omega)] at h1
      rw [List.getElem?_append_right (by rw [← r.mem.len]; omega)] at h2
      rw [r.mem.len] at h1
      cases hk : n - s.m.length with
      | zero =>
        rw [hk] at h1 h2
        cases h1
        cases h2
        exact hc
      | succ k =>
        rw [hk] at h1
        cases h1
  · obtain ⟨a, b, c'⟩ := r.mem.fo q hq
    refine ⟨a, fun m => ?_, c'⟩
    have m : q ∈ w1.r ++ [p] := m
    rcases List.mem_append.mp m with m | m
    · exact b m
    · rw [List.mem_singleton.mp m] at hq
      exact hp.2 hq
  · have q := r.slot i sl e
    cases sl with
    | u => trivial
    | d x => exact q
    | c n =>
      obtain ⟨p', e1, e2⟩ := q
      refine ⟨p', e1, ?_⟩
      show (w1.r ++ [p])[n]? = some p'
      rw [List.getElem?_append_left (List.getElem?_eq_some_iff.mp e2).1]
      exact e2
    | f => exact q
    | f2 => exact q
    | t b es =>
      obtain ⟨v, e1, z⟩ := q
      refine ⟨v, e1, z.mono (Same.refl _) fun k p' h => ?_⟩
      show (w1.r ++ [p])[k]? = some p'
      rw [List.getElem?_append_left (List.getElem?_eq_some_iff.mp h).1]
      exact h
    | x n =>
      obtain ⟨z1, a, z2, z3, z4⟩ := q
      refine ⟨z1, a, z2, fun m => ?_, z4⟩
      have m : a ∈ w1.r ++ [p] := m
      rcases List.mem_append.mp m with m | m
      · exact z3 m
      · have ea := List.mem_singleton.mp m
        subst ea
        unfold ExO at z4
        cases c with
        | gone => exact hg rfl
        | l ds =>
          obtain ⟨_, _, hv, _⟩ := hc
          rw [z4] at hv
          cases hv
        | k ds =>
          obtain ⟨_, _, hv, _⟩ := hc
          rw [z4] at hv
          cases hv
        | t ds =>
          obtain ⟨_, _, hv, _⟩ := hc
          rw [z4] at hv
          cases hv
        | r ds =>
          obtain ⟨_, _, hv, _⟩ := hc
          rw [z4] at hv
          cases hv
        | i n' j' ds =>
          obtain ⟨_, _, hv, _⟩ := hc
          rw [z4] at hv
          cases hv
        | g x =>
          obtain ⟨_, o1, hv, q1⟩ := hc
          rw [z4] at hv
          exact q1.noX.2 _ _ (Option.some.inj hv).symm
theorem cell_setN {K : Fg} {w : Wd} {σ : L2.St} {s : S} {n : Nat} {p : Addr} {o : HO} {c : Cell} (r : Rel ec K w σ s) (hn : w.r[n]? = some p) (hg : w.G p = none) (hc : COk K w.G (upd w.H p o) p c) (hnv : NV ec ⟨w.G, w.r, w.F, upd w.H p o⟩ (s.m.set n c)) (hz : ∀ od u, w.H p ≠ some (.frz od u)) :
    Rel ec K ⟨w.G, w.r, w.F, upd w.H p o⟩ σ ⟨s.v, s.m.set n c⟩ ∧ Le w ⟨w.G, w.r, w.F, upd w.H p o⟩ := by
  have le : Le w ⟨w.G, w.r, w.F, upd w.H p o⟩ := ⟨Same.refl _, fun a u e na => ⟨u, by
    show upd w.H p o a = some u
    have hne : a ≠ p := by
      intro z
      subst z
      exact na (List.mem_of_getElem? hn)
    rw [upd_ne hne]
    exact e, fun _ => rfl⟩, List.prefix_refl _, fun _ h => .inl h, rfl, fun a od u e => by
    have ne : a ≠ p := fun z => hz od u (by rw [← z]; exact e)
    show upd w.H p o a = _
    rw [upd_ne ne]
    exact e⟩
  refine ⟨⟨⟨fun b u e => ?_, by show w.r.length = (s.m.set n c).length; rw [List.length_set]; exact r.mem.len, r.mem.nd, fun k q c' h1 h2 => ?_, fun q hq => ?_, (let ⟨_, a, b, c⟩ := r.liveN hn hg; r.mem.tab.put a b c.1), r.mem.inv.trans (le.ch _), r.mem.gt, hnv⟩, r.len, fun i sl e => slOk_mono le (r.slot i sl e)⟩, le⟩
  · show upd w.H p o b = some u
    have hb : b ≠ p := by
      intro z
      subst z
      have e : w.G b = some u := e
      rw [hg] at e
      cases e
    rw [upd_ne hb]
    exact r.mem.ext b u e
  · have h2 : (s.m.set n c)[k]? = some c' := h2
    by_cases hk : n = k
    · subst hk
      have hl : n < s.m.length := by rw [← r.mem.len]; exact (List.getElem?_eq_some_iff.mp hn).1
      rw [List.getElem?_set_self hl] at h2
      cases h2
      have h1 : w.r[n]? = some q := h1
      rw [hn] at h1
      cases h1
      exact hc
    · rw [List.getElem?_set_ne hk] at h2
      have hq : q ≠ p := fun z => hk (nd_ix r.mem.nd hn (z ▸ h1))
      have c0 := r.mem.cell k q c' h1 h2
      refine cOk_mono (Same.refl _) (fun hc => ?_) (fun u _ e => ?_) c0
      · show w.G q = none
        cases c' with
        | l ds => exact c0.1
        | k kvs => exact c0.1
        | t kvs => exact c0.1
        | r ks => exact c0.1
        | i n j ds => exact c0.1
        | g x => exact c0.1
        | gone => exact absurd rfl hc
      · show upd w.H p o q = some u
        rw [upd_ne hq]
        exact e
  · obtain ⟨a, b, u, hu⟩ := r.mem.fo q hq
    refine ⟨a, b, u, ?_⟩
    show upd w.H p o q = some u
    have hne : q ≠ p := by
      intro z
      subst z
      exact b (List.mem_of_getElem? hn)
    rw [upd_ne hne]
    exact hu
end
/-! ### d.setdefault(k, []).append(v), d a dict of lists -/
end Vm
namespace Vm
open PySem L2 PySem.Spec PyProof.Rows
/-! ### loads as keys -/
def kI (xs : List Int) : List L2.Key := xs.map Sum.inl
def ldD (xs : List Int) : D := .tuple (xs.map PyData.int)
theorem tupK_kI (xs : List Int) : tupK (kI xs) = ldD xs := by
  unfold tupK kI ldD
  rw [List.map_map]
  rfl
theorem kI_inj {x y : List Int} : kI x = kI y ↔ x = y := List.map_inj_right fun a b e => Sum.inl.inj e
theorem keysOf_kI (xs : List Int) : keysOf (xs.map PyData.int) = some (kI xs) := by
  have : xs.map PyData.int = (kI xs).map kD := by
    unfold kI
    rw [List.map_map]
    rfl
  rw [this]
  exact keysOf_kD
section
variable {β γ : Type}
def keys (F : List (List Int × β)) : List (List Int) := F.map (·.1)
def aget (F : List (List Int × β)) (k : List Int) : Option β := (F.find? fun p => decide (p.1 = k)).map (·.2)
def aput (F : List (List Int × β)) (k : List Int) (v : β) : List (List Int × β) := if (F.any fun p => decide (p.1 = k)) = true then F.map (fun p => if p.1 = k then (p.1, v) else p) else F ++ [(k, v)]
theorem aget_nil {k : List Int} : aget ([] : List (List Int × β)) k = none := rfl
theorem aget_cons {p : List Int × β} {F : List (List Int × β)} {k : List Int} : aget (p :: F) k = if p.1 = k then some p.2 else aget F k := by
  unfold aget
  rw [List.find?_cons]
  by_cases h : p.1 = k
  · simp [h]
  · simp [h]
theorem any_keys {F : List (List Int × β)} {k : List Int} : (F.any fun p => decide (p.1 = k)) = true ↔ k ∈ keys F := by
  unfold keys
  rw [List.any_eq_true, List.mem_map]
  constructor
  · rintro ⟨p, h1, h2⟩
    exact ⟨p, h1, of_decide_eq_true h2⟩
  · rintro ⟨p, h1, h2⟩
    exact ⟨p, h1, decide_eq_true h2⟩
theorem aget_isSome {k : List Int} : ∀ {F : List (List Int × β)}, (aget F k).isSome = true ↔ k ∈ keys F
  | [] => by simp [aget, keys]
  | p :: F => by
    rw [aget_cons]
    show _ ↔ k ∈ p.1 :: keys F
    rw [List.mem_cons]
    by_cases h : p.1 = k
    · simp [h]
    · rw [if_neg h, aget_isSome]
      exact ⟨.inr, fun z => z.resolve_left fun e => h e.symm⟩
theorem aget_none {F : List (List Int × β)} {k : List Int} (h : k ∉ keys F) : aget F k = none := by
  cases e : aget F k with
  | none => rfl
  | some v => exact absurd (aget_isSome.mp (by rw [e]; rfl)) h
theorem aput_old {F : List (List Int × β)} {k : List Int} {v : β} (h : k ∈ keys F) : aput F k v = F.map (fun p => if p.1 = k then (p.1, v) else p) := by
  unfold aput
  rw [if_pos (any_keys.mpr h)]
theorem aput_new {F : List (List Int × β)} {k : List Int} {v : β} (h : k ∉ keys F) : aput F k v = F ++ [(k, v)] := by
  unfold aput
  rw [if_neg fun z => h (any_keys.mp z)]
theorem keys_aput {F : List (List Int × β)} {k : List Int} {v : β} : keys (aput F k v) = if k ∈ keys F then keys F else keys F ++ [k] := by
  by_cases h : k ∈ keys F
  · rw [aput_old h, if_pos h]
    unfold keys
    rw [List.map_map]
    apply List.map_congr_left
    intro p _
    show (if p.1 = k then (p.1, v) else p).1 = p.1
    split <;> rfl
  · rw [aput_new h, if_neg h]
    unfold keys
    rw [List.map_append]
    rfl
theorem nodup_aput {F : List (List Int × β)} {k : List Int} {v : β} (h : (keys F).Nodup) : (keys (aput F k v)).Nodup := by
  rw [keys_aput]
  split
  · exact h
  · rename_i hk
    refine List.nodup_append.mpr ⟨h, by simp, fun a ha b hb e => ?_⟩
    rw [List.mem_singleton.mp hb] at e
    exact hk (e ▸ ha)
theorem mem_aput {F : List (List Int × β)} {k t : List Int} {v : β} : t ∈ keys (aput F k v) ↔ t ∈ keys F ∨ t = k := by
  rw [keys_aput]
  split
  · rename_i h
    exact ⟨.inl, fun z => z.elim id fun e => e ▸ h⟩
  · rw [List.mem_append, List.mem_singleton]
theorem aget_map {v : β} {k t : List Int} : ∀ {F : List (List Int × β)}, aget (F.map fun p => if p.1 = k then (p.1, v) else p) t = if t = k then (aget F t).map fun _ => v else aget F t
  | [] => by simp [aget]
  | p :: F => by
    rw [List.map_cons, aget_cons, aget_cons, aget_map]
    by_cases h1 : p.1 = k
    · rw [if_pos h1]
      by_cases h2 : p.1 = t
      · rw [if_pos h2, if_pos h2, if_pos (h2.symm.trans h1)]
        rfl
      · have h3 : ¬ t = k := fun z => h2 (h1.trans z.symm)
        rw [if_neg h2, if_neg h2, if_neg h3]
    · rw [if_neg h1]
      by_cases h2 : p.1 = t
      · have h3 : ¬ t = k := fun z => h1 (h2.trans z)
        rw [if_pos h2, if_pos h2, if_neg h3]
      · rw [if_neg h2, if_neg h2]
theorem aget_append {t : List Int} {G : List (List Int × β)} : ∀ {F : List (List Int × β)}, aget (F ++ G) t = (aget F t).or (aget G t)
  | [] => by simp [aget]
  | p :: F => by
    rw [List.cons_append, aget_cons, aget_cons, aget_append]
    split
    · rfl
    · rfl
theorem aget_aput {F : List (List Int × β)} {k t : List Int} {v : β} : aget (aput F k v) t = if t = k then some v else aget F t := by
  by_cases h : k ∈ keys F
  · rw [aput_old h, aget_map]
    by_cases e : t = k
    · subst e
      rw [if_pos rfl, if_pos rfl]
      obtain ⟨w, hw⟩ := Option.isSome_iff_exists.mp (aget_isSome.mpr h)
      rw [hw]
      rfl
    · rw [if_neg e, if_neg e]
  · rw [aput_new h, aget_append, aget_cons]
    by_cases e : t = k
    · subst e
      rw [aget_none h, if_pos rfl, if_pos rfl]
      rfl
    · rw [if_neg e, if_neg (fun z => e z.symm), aget_nil, Option.or_none]
end
/-! the cells -/
def tkv (F : List (List Int × D)) : List (List L2.Key × D) := F.map fun p => (kI p.1, p.2)
theorem getD_tkv {k : List Int} : ∀ {F : List (List Int × D)}, getD (tkv F) (kI k) = aget F k
  | [] => rfl
  | p :: F => by
    have ih := getD_tkv (k := k) (F := F)
    unfold getD at ih ⊢
    show ((kI p.1, p.2) :: tkv F |>.find? _).map _ = _
    rw [List.find?_cons, aget_cons]
    by_cases h : p.1 = k
    · subst h
      simp
    · have h' : ¬ kI p.1 = kI k := fun z => h (kI_inj.mp z)
      simp only [h', decide_false]
      rw [if_neg h]
      exact ih
theorem any_tkv {k : List Int} : ∀ {F : List (List Int × D)}, ((tkv F).any fun kv => decide (kv.1 = kI k)) = F.any fun p => decide (p.1 = k)
  | [] => rfl
  | p :: F => by
    show (decide (kI p.1 = kI k) || (tkv F).any _) = (decide (p.1 = k) || F.any _)
    rw [any_tkv]
    congr 1
    exact decide_eq_decide.mpr kI_inj
theorem putD_tkv {k : List Int} {v : D} {F : List (List Int × D)} : putD (tkv F) (kI k) v = tkv (aput F k v) := by
  unfold putD aput
  rw [any_tkv]
  split
  · unfold tkv
    rw [List.map_map, List.map_map]
    apply List.map_congr_left
    intro p _
    show (if kI p.1 = kI k then (kI p.1, v) else (kI p.1, p.2)) = (fun p : List Int × D => (kI p.1, p.2)) (if p.1 = k then (p.1, v) else p)
    by_cases h : p.1 = k
    · rw [if_pos h, if_pos (kI_inj.mpr h)]
    · rw [if_neg h, if_neg fun z => h (kI_inj.mp z)]
  · unfold tkv
    rw [List.map_append]
    rfl
/-- a dict of loads as data -/
def dT (F : List (List Int × D)) : D := tD (tkv F)
theorem dT_eq (F : List (List Int × D)) : dT F = .dict (tagT :: F.map fun p => (ldD p.1, p.2)) := by
  unfold dT tD tkv
  rw [List.map_map]
  congr 2
  apply List.map_congr_left
  intro p _
  show (tupK (kI p.1), p.2) = _
  rw [tupK_kI]
/-! the order -/
def sortL (ks : List (List Int)) : List (List Int) := ks.mergeSort fun x y => decide (x ≤ y)
theorem sortL_perm (ks : List (List Int)) : (sortL ks).Perm ks := List.mergeSort_perm _ _
theorem sortL_pw (ks : List (List Int)) : (sortL ks).Pairwise (· ≤ ·) := by
  have := List.pairwise_mergeSort (le := fun x y : List Int => decide (x ≤ y)) (fun a b c h1 h2 => decide_eq_true (List.le_trans (of_decide_eq_true h1) (of_decide_eq_true h2))) (fun a b => by
    rcases List.le_total a b with h | h
    · simp [h]
    · simp [h]) ks
  exact this.imp fun h => of_decide_eq_true h
theorem sortL_congr {as bs : List (List Int)} (h : as.Perm bs) : sortL as = sortL bs :=
  ((sortL_perm as).trans (h.trans (sortL_perm bs).symm)).eq_of_pairwise (fun a b _ _ h1 h2 => List.le_antisymm h1 h2) (sortL_pw as) (sortL_pw bs)
theorem sortL_mem {ks : List (List Int)} {k : List Int} : k ∈ sortL ks ↔ k ∈ ks := (sortL_perm ks).mem_iff
theorem sortL_len {ks : List (List Int)} : (sortL ks).length = ks.length := (sortL_perm ks).length_eq
theorem sortL_set {as bs : List (List Int)} (ha : as.Nodup) (hb : bs.Nodup) (h : ∀ k, k ∈ as ↔ k ∈ bs) : sortL as = sortL bs := sortL_congr ((List.perm_ext_iff_of_nodup ha hb).mpr h)
/-! ### weights counted -/
def accW (F : List (List Int × Int)) (e : List Int × Int) : List (List Int × Int) := aput F e.1 ((aget F e.1).getD 0 + e.2)
def wt (F : List (List Int × Int)) (k : List Int) : Int := (aget F k).getD 0
def sumW (F : List (List Int × Int)) : Int := (F.map (·.2)).sum
theorem wt_acc {F : List (List Int × Int)} {e : List Int × Int} {t : List Int} : wt (accW F e) t = wt F t + if e.1 = t then e.2 else 0 := by
  unfold accW wt
  rw [aget_aput]
  by_cases h : t = e.1
  · rw [if_pos h, if_pos h.symm, h]
    rfl
  · rw [if_neg h, if_neg fun z => h z.symm, Int.add_zero]
theorem keys_acc {F : List (List Int × Int)} {e : List Int × Int} {t : List Int} : t ∈ keys (accW F e) ↔ t ∈ keys F ∨ t = e.1 := mem_aput
theorem sum_upd {k : List Int} {v : Int} : ∀ {F : List (List Int × Int)}, (keys F).Nodup → k ∈ keys F → sumW (F.map fun p => if p.1 = k then (p.1, v) else p) = sumW F - wt F k + v
  | p :: F, hn, hk => by
    have hn : (p.1 :: keys F).Nodup := hn
    rw [List.nodup_cons] at hn
    have hk : k ∈ p.1 :: keys F := hk
    show ((if p.1 = k then (p.1, v) else p).2 + sumW (F.map _)) = (p.2 + sumW F) - wt (p :: F) k + v
    by_cases h : p.1 = k
    · have hm : (F.map fun p => if p.1 = k then (p.1, v) else p) = F := by
        conv => rhs; rw [← List.map_id F]
        apply List.map_congr_left
        intro q hq
        have : q.1 ≠ k := fun z => hn.1 (by rw [h, ← z]; exact List.mem_map_of_mem (f := (·.1)) hq)
        rw [if_neg this]
        rfl
      rw [if_pos h, hm]
      unfold wt
      rw [aget_cons, if_pos h]
      show v + sumW F = p.2 + sumW F - p.2 + v
      omega
    · rw [if_neg h, sum_upd hn.2 ((List.mem_cons.mp hk).resolve_left fun z => h z.symm)]
      unfold wt
      rw [aget_cons, if_neg h]
      omega
theorem sum_acc {F : List (List Int × Int)} {e : List Int × Int} (hn : (keys F).Nodup) : sumW (accW F e) = sumW F + e.2 := by
  unfold accW
  by_cases h : e.1 ∈ keys F
  · rw [aput_old h, sum_upd hn h]
    unfold wt
    omega
  · rw [aput_new h, aget_none h]
    unfold sumW
    rw [List.map_append, List.sum_append]
    simp
def accL (E : List (List Int × Int)) : List (List Int × Int) := E.foldl accW []
/-- what the events E give to t -/
def evW (E : List (List Int × Int)) (t : List Int) : Int := (E.map fun e => if e.1 = t then e.2 else 0).sum
theorem accL_ok (E : List (List Int × Int)) : ∀ F : List (List Int × Int), (keys F).Nodup → (keys (E.foldl accW F)).Nodup ∧ (∀ t, t ∈ keys (E.foldl accW F) ↔ t ∈ keys F ∨ t ∈ keys E) ∧ (∀ t, wt (E.foldl accW F) t = wt F t + evW E t) ∧ sumW (E.foldl accW F) = sumW F + sumW E := by
  induction E with
  | nil =>
    intro F hn
    exact ⟨hn, fun t => by simp [keys], fun t => by simp [evW], by simp [sumW]⟩
  | cons e E ih =>
    intro F hn
    obtain ⟨h1, h2, h3, h4⟩ := ih (accW F e) (nodup_aput hn)
    refine ⟨h1, fun t => ?_, fun t => ?_, ?_⟩
    · show t ∈ keys (E.foldl accW (accW F e)) ↔ t ∈ keys F ∨ t ∈ e.1 :: keys E
      rw [h2, keys_acc, List.mem_cons, or_assoc]
    · show wt (E.foldl accW (accW F e)) t = wt F t + ((if e.1 = t then e.2 else 0) + evW E t)
      rw [h3, wt_acc]
      omega
    · show sumW (E.foldl accW (accW F e)) = sumW F + (e.2 + sumW E)
      rw [h4, sum_acc hn]
      omega
theorem accL_nodup (E : List (List Int × Int)) : (keys (accL E)).Nodup := (accL_ok E [] .nil).1
theorem accL_keys {E : List (List Int × Int)} {t : List Int} : t ∈ keys (accL E) ↔ t ∈ keys E := by
  rw [accL, (accL_ok E [] .nil).2.1]
  simp [keys]
theorem accL_wt {E : List (List Int × Int)} {t : List Int} : wt (accL E) t = evW E t := by
  rw [accL, (accL_ok E [] .nil).2.2.1]
  simp [wt, aget]
/-! ### parts gathered -/
def evD (E : List (List Int × D)) (t : List Int) : List D := (E.filter fun e => decide (e.1 = t)).map (·.2)
end Vm
namespace Vm
open PySem L2 PySem.Spec PyProof.Rows
/-! ### d.get(k, x) -/
/-- a dict whose keys are tuples of tuples -/
def isTagN : List (D × D) → Bool
  | (.list (_ :: _), _) :: _ => true
  | _ => false
def dctOd : Od → Bool
  | .c (.k _) => true
  | .c (.t _) => true
  | .d (.dict es) => !isTagN es
  | _ => false
def cGet (co ck cd : CE) : CE := fun s => (cv co s).bind fun o s1 => opt (o.od s1.m) fun o1 => if dctOd o1 = true then (cv ck s1).bind fun k s2 => (cv cd s2).bind fun d s3 => opt (o.od s3.m) fun oo => opt (k.od s3.m) fun kk => opt (look oo kk) fun r => match r, d with
  | some x, _ => .ok (.d x) s3
  | none, .d y => .ok (.d y) s3
  | _, _ => .bad
  else .bad
/-! its value -/
def kGet4 (o k d : Rv) (s3 : S) : R Rv := opt (o.od s3.m) fun oo => opt (k.od s3.m) fun kk => opt (look oo kk) fun r => match r, d with
  | some x, _ => .ok (.d x) s3
  | none, .d y => .ok (.d y) s3
  | _, _ => .bad
def kGet3 (o k : Rv) (d : Rv) (s3 : S) : R Rv := kGet4 o k d s3
def kGet2 (cd : CE) (o : Rv) (k : Rv) (s2 : S) : R Rv := (cv cd s2).bind (kGet3 o k)
def kGet1 (ck cd : CE) (o : Rv) (s1 : S) : R Rv := opt (o.od s1.m) fun o1 => if dctOd o1 = true then (cv ck s1).bind (kGet2 cd o) else .bad
@[simp] theorem cGet_s {co ck cd : CE} {s : S} : cGet co ck cd s = (cv co s).bind (kGet1 ck cd) := Eq.trans rfl rfl
@[simp] theorem kGet2_s {cd : CE} {o k : Rv} {s2 : S} : kGet2 cd o k s2 = (cv cd s2).bind (kGet3 o k) := Eq.trans rfl rfl
@[simp] theorem kGet3_s {o k d : Rv} {s3 : S} : kGet3 o k d s3 = kGet4 o k d s3 := Eq.trans rfl rfl
@[simp] theorem kGet1_t {ck cd : CE} {n : Nat} {kvs : List (List L2.Key × D)} {s1 : S} (h : s1.m[n]? = some (.t kvs)) : kGet1 ck cd (.ref n) s1 = (cv ck s1).bind (kGet2 cd (.ref n)) := by
  unfold kGet1
  rw [od_ref, h, odC_t]
  rfl
@[simp] theorem isTagN_T {es : List (D × D)} : isTagN (tagT :: es) = false := Eq.trans rfl rfl
@[simp] theorem isTagN_k {kvs : List (L2.Key × D)} : isTagN (kvs.map fun p => (kD p.1, p.2)) = false := by
  cases kvs with
  | nil => rfl
  | cons p _ => obtain ⟨k | k, d⟩ := p <;> rfl
@[simp] theorem kGet1_d {ck cd : CE} {es : List (D × D)} {s1 : S} (h : isTagN es = false) : kGet1 ck cd (.d (.dict es)) s1 = (cv ck s1).bind (kGet2 cd (.d (.dict es))) := by
  unfold kGet1
  show (if (!isTagN es) = true then _ else _) = _
  rw [h]
  rfl
theorem kGet4_t {n : Nat} {F : List (List Int × D)} {k : List Int} {d : D} {s3 : S} (h : s3.m[n]? = some (.t (tkv F))) : kGet4 (.ref n) (.d (ldD k)) (.d d) s3 = .ok (.d ((aget F k).getD d)) s3 := by
  unfold kGet4
  rw [od_ref, h, odC_t]
  show opt (look (.c (.t (tkv F))) (.d (.tuple (k.map PyData.int)))) _ = _
  unfold look
  dsimp only
  rw [keysOf_kI]
  dsimp only
  rw [getD_tkv]
  cases aget F k <;> rfl
theorem getT_ld {k : List Int} : ∀ {F : List (List Int × D)}, getT (F.map fun p => (ldD p.1, p.2)) (kI k) = aget F k
  | [] => rfl
  | p :: F => by
    have ih := getT_ld (k := k) (F := F)
    rw [aget_cons]
    unfold getT at ih ⊢
    rw [List.map_cons, List.find?_cons]
    have e1 : keyT (ldD p.1) = some (kI p.1) := keysOf_kI p.1
    by_cases h : p.1 = k
    · rw [if_pos h]
      subst h
      simp only [e1, decide_true, Option.map_some]
    · rw [if_neg h]
      have : ¬ some (kI p.1) = some (kI k) := fun z => h (kI_inj.mp (Option.some.inj z))
      simp only [e1, this, decide_false]
      exact ih
theorem look_dT {F : List (List Int × D)} {k : List Int} : look (.d (dT F)) (.d (ldD k)) = some (aget F k) := by
  rw [dT_eq]
  show (match keysOf (k.map PyData.int) with
    | some k => some (getT (F.map fun p : List Int × D => (ldD p.1, p.2)) k)
    | none => none) = _
  rw [keysOf_kI]
  dsimp only
  rw [getT_ld]
theorem opItem_dT {F : List (List Int × D)} {k : List Int} {v : D} (h : aget F k = some v) : opItem (.d (dT F)) (.d (ldD k)) = some (.d v) := by
  unfold opItem
  rw [look_dT, h]
theorem ciKeyT_dT {F : List (List Int × D)} {c : CE} {s s1 : S} (h : c s = .ok (.d (dT F)) s1) : ciKeyT c s = .ok ((keys F).map ldD) s1 := by
  unfold ciKeyT cv
  rw [h, dT_eq]
  show R.ok ((F.map fun p => (ldD p.1, p.2)).map (·.1)) s1 = _
  unfold keys
  rw [List.map_map, List.map_map]
  rfl
theorem putIn_t {F : List (List Int × D)} {k : List Int} {v : D} (h : F.length < 16000000) : putIn (.t (tkv F)) (ldD k) v = some (.t (tkv (aput F k v))) := by
  show (match keysOf (k.map PyData.int) with
    | some k => if (tkv F).length < 16000000 then some (Cell.t (putD (tkv F) k v)) else none
    | none => none) = _
  rw [keysOf_kI]
  dsimp only
  rw [if_pos (by unfold tkv; rw [List.length_map]; exact h), putD_tkv]
end Vm
namespace Vm
open PySem L2 PySem.Spec PyProof.Rows
/-! ### the memory of a dict of lists -/
def gi : Nat → List (List Int × List D) → List Cell
  | _, [] => []
  | j, p :: G => .i 0 j p.2 :: gi (j + 1) G
def gm (G : List (List Int × List D)) : List Cell := .r ((keys G).map kI) :: gi 0 G
end Vm
namespace Vm
open PySem L2 PySem.Spec PyProof.Rows
/-! ### shares of a common bottom -/
theorem tell_tight {j K : Nat} {d : D} {a N : Int} (h : Tell j d ((a : Rat) / N)) (hN : 1 ≤ N) (ba : Bs K a) (bN : Bs K N) (hK : 1 ≤ K) : Tell K d ((a : Rat) / N) := by
  obtain ⟨p, q, rfl, s, r⟩ := h.ex
  refine ⟨p, q, rfl, ?_, r⟩
  have hN' := rat_ne hN
  have e : p * N = a * q := by
    rw [← Rat.intCast_inj, Rat.intCast_mul, Rat.intCast_mul, r]
    grind
  have hq := s.pos
  have cop : Int.gcd q p = 1 := by rw [Int.gcd_comm]; exact s.cop
  have d1 : q ∣ N := by
    have : q ∣ p * N := ⟨a, by rw [e, Int.mul_comm]⟩
    exact cop_dvd this cop
  have d2 : p ∣ a := by
    have : p ∣ q * a := ⟨N, by rw [Int.mul_comm]; exact e.symm⟩
    exact cop_dvd this s.cop
  refine ⟨hq, s.cop, ?_, bN.le ?_⟩
  · by_cases h0 : a = 0
    · have : p = 0 := by
        rw [h0, Int.zero_mul] at e
        rcases Int.mul_eq_zero.mp e with z | z
        · exact z
        · omega
      rw [this]
      exact Nat.pow_pos (by decide)
    · exact ba.le (Nat.le_of_dvd (by omega) (Int.natAbs_dvd_natAbs.mpr d2))
  · exact Nat.le_of_dvd (by omega) (Int.natAbs_dvd_natAbs.mpr d1)
theorem bs_between {K : Nat} {a b : Int} (h0 : 0 ≤ a) (h : a ≤ b) (hb : Bs K b) : Bs K a := hb.le (by omega)
/-! ### spreads -/
def rowD (k : List Int) (d : D) : D := .tuple [ldD k, d]
/-- the rows ds are the spread of the weights F -/
def Spr (K : Nat) (F : List (List Int × Int)) (ds : List D) : Prop := ∃ g : List Int → D, ds = (sortL (keys F)).map (fun k => rowD k (g k)) ∧ ∀ k, k ∈ keys F → Tell K (g k) ((wt F k : Rat) / (sumW F : Int))
theorem Spr.one {K K' : Nat} {F F' : List (List Int × Int)} {ds ds' : List D} (h : Spr K F ds) (h' : Spr K' F' ds') (n : (keys F).Nodup) (n' : (keys F').Nodup) (hk : ∀ k, k ∈ keys F ↔ k ∈ keys F') (hw : ∀ k, k ∈ keys F → (wt F k : Rat) / (sumW F : Int) = (wt F' k : Rat) / (sumW F' : Int)) : ds = ds' := by
  obtain ⟨g, rfl, t⟩ := h
  obtain ⟨g', rfl, t'⟩ := h'
  rw [← sortL_set n n' hk]
  apply List.map_congr_left
  intro k hk'
  have hk' := sortL_mem.mp hk'
  unfold rowD
  rw [(t k hk').one ((t' k ((hk k).mp hk')).to (hw k hk').symm)]
def fiD (F : List (List Int × Int)) : List (List Int × D) := F.map fun p => (p.1, PyData.int p.2)
theorem keys_fiD {F : List (List Int × Int)} : keys (fiD F) = keys F := by
  unfold keys fiD
  rw [List.map_map]
  rfl
theorem aget_fiD {k : List Int} : ∀ {F : List (List Int × Int)}, aget (fiD F) k = (aget F k).map PyData.int
  | [] => rfl
  | p :: F => by
    show aget ((p.1, PyData.int p.2) :: fiD F) k = _
    rw [aget_cons, aget_cons, aget_fiD]
    split <;> rfl
theorem aget_wt {F : List (List Int × Int)} {k : List Int} (h : k ∈ keys F) : aget F k = some (wt F k) := by
  obtain ⟨v, hv⟩ := Option.isSome_iff_exists.mp (aget_isSome.mpr h)
  unfold wt
  rw [hv]
  rfl
structure WOk (K : Nat) (F : List (List Int × Int)) : Prop where
  nd : (keys F).Nodup
  ne : ∀ k, k ∈ keys F → k ≠ []
  len : F.length ≤ 100000
  pos : ∀ k, k ∈ keys F → 0 ≤ wt F k
  bw : ∀ k, k ∈ keys F → Bs K (wt F k)
  s1 : 1 ≤ sumW F
  bs : Bs K (sumW F)
/-! ### gathered -/
/-- the events' parts are the amounts over N -/
def EvR (K : Nat) (N : Int) (E : List (List Int × D)) (A : List (List Int × Int)) : Prop := Paired (fun (e : List Int × D) (a : List Int × Int) => e.1 = a.1 ∧ Tell K e.2 ((a.2 : Rat) / N) ∧ 0 ≤ a.2) E A
def evA (A : List (List Int × Int)) (t : List Int) : List Int := (A.filter fun e => decide (e.1 = t)).map (·.2)
theorem EvR.at {K : Nat} {N : Int} {t : List Int} : ∀ {E : List (List Int × D)} {A : List (List Int × Int)}, EvR K N E A → (evD E t).length = (evA A t).length ∧ (∀ (i : Nat) (d : D) (a : Int), (evD E t)[i]? = some d → (evA A t)[i]? = some a → Tell K d ((a : Rat) / N)) ∧ (∀ a, a ∈ evA A t → 0 ≤ a) ∧ (t ∈ keys E ↔ t ∈ keys A)
  | _, _, .nil => ⟨rfl, fun i d a h => by simp [evD] at h, fun a h => by simp [evA] at h, by simp [keys]⟩
  | e :: E, a :: A, .cons r q => by
    obtain ⟨h1, h2, h3, h4⟩ := EvR.at (t := t) q
    obtain ⟨r1, r2, r3⟩ := r
    have hk : t ∈ keys (e :: E) ↔ t ∈ keys (a :: A) := by
      show t ∈ e.1 :: keys E ↔ t ∈ a.1 :: keys A
      rw [List.mem_cons, List.mem_cons, h4, r1]
    unfold evD evA at *
    rw [List.filter_cons, List.filter_cons]
    by_cases h : a.1 = t
    · rw [if_pos (by simpa using r1.trans h), if_pos (by simpa using h), List.map_cons, List.map_cons]
      refine ⟨by rw [List.length_cons, List.length_cons, h1], fun i d x e1 e2 => ?_, fun x hx => ?_, hk⟩
      · cases i with
        | zero =>
          cases e1
          cases e2
          exact r2
        | succ i => exact h2 i d x (by simpa using e1) (by simpa using e2)
      · rcases List.mem_cons.mp hx with rfl | hx
        · exact r3
        · exact h3 x hx
    · rw [if_neg (by simpa using fun z => h (r1.symm.trans z)), if_neg (by simpa using h)]
      exact ⟨h1, h2, h3, hk⟩
theorem EvR.pos {K : Nat} {N : Int} : ∀ {E : List (List Int × D)} {A : List (List Int × Int)}, EvR K N E A → ∀ a, a ∈ A → 0 ≤ a.2
  | _, _, .nil, a, h => nomatch h
  | _, _, .cons r q, a, h => by
    rcases List.mem_cons.mp h with rfl | h
    · exact r.2.2
    · exact EvR.pos q a h
end Vm
namespace Vm
open PySem L2 PySem.Spec PyProof.Rows
theorem enumD_at : ∀ (ds : List D) (k j : Nat) (d : D), (enumD k ds)[j]? = some d → ∃ x, ds[j]? = some x ∧ d = .tuple [.int ((k + j : Nat) : Int), x]
  | [], k, j, d, h => by simp [enumD] at h
  | x :: ds, k, 0, d, h => by
    have h : some (PyData.tuple [.int (k : Int), x]) = some d := h
    cases h
    exact ⟨x, rfl, rfl⟩
  | x :: ds, k, j + 1, d, h => by
    have h : (enumD (k + 1) ds)[j]? = some d := by simpa [enumD] using h
    obtain ⟨y, h1, h2⟩ := enumD_at ds (k + 1) j d h
    exact ⟨y, by simpa using h1, by rw [h2, show k + 1 + j = k + (j + 1) by omega]⟩
theorem enumD_length : ∀ (ds : List D) (k : Nat), (enumD k ds).length = ds.length
  | [], k => rfl
  | x :: ds, k => by
    show (enumD (k + 1) ds).length + 1 = _
    rw [enumD_length ds (k + 1)]
    rfl
/-- the events of one row: what f gives at the first j places -/
def evTo {α : Type} (f : Nat → Option α) (j : Nat) : List α := (List.range j).filterMap f
theorem evTo_succ {α : Type} {f : Nat → Option α} {j : Nat} : evTo f (j + 1) = evTo f j ++ (f j).toList := by
  unfold evTo
  rw [List.range_succ, List.filterMap_append]
  cases h : f j <;> simp [h]
theorem evTo_len {α : Type} {f : Nat → Option α} {j : Nat} : (evTo f j).length ≤ j := by
  unfold evTo
  have := List.length_filterMap_le f (List.range j)
  rw [List.length_range] at this
  exact this
/-! ### a ball leaves -/
def dec (k : List Int) (r : Nat) : List Int := sortD (k.set r (k.getD r 0 - 1))
/-- the loads of F have n boxes and so many balls -/
structure LdF (n : Nat) (b : Int) (F : List (List Int × Int)) : Prop where
  n1 : 1 ≤ n
  len : ∀ k, k ∈ keys F → k.length = n
  pos : ∀ k, k ∈ keys F → ∀ x, x ∈ k → 0 ≤ x
  sum : ∀ k, k ∈ keys F → k.sum = b
def decEv {β : Type} (k : List Int) (f : Nat → β) (r : Nat) : Option (List Int × β) := if 0 < k.getD r 0 then some (dec k r, f r) else none
end Vm
namespace Vm
open PySem L2 PySem.Spec PyProof.Rows
/-! ### a load changed by one, within a loop -/
theorem w_chg {op : Od → Od → Option Rv} {f : Int → Int} {a l r t : Nat} {v : List Sl} {m : List Cell} {k : List Int} {j : Nat} {rest : CS} {P : Po} (hl : v[l]? = some (.d (ldD k))) (hr : v[r]? = some (.d (.int (j : Nat)))) (hj : j < k.length)
    (hop : ∀ x, op (.d (.int x)) (.d (.int 1)) = some (.d (.int (f x)))) (ha : a < v.length) (h1 : a ≠ r) (q : Wp rest P ⟨(v.set a (.c m.length)).set t (.d (ldD (sortD (k.set j (f (k.getD j 0)))))), m ++ [.l ((k.set j (f (k.getD j 0))).map PyData.int)]⟩) :
    Wp (cSeq (cSetM a (cOp1 opList (cVar l))) (cSeq (cPutL (cVar a) (cVar r) (cOp2 op (cOp2 opIx (cVar a) (cVar r)) (cC (.int 1)))) (cSeq (cSet t (cOp1 opTuple (cOp1 opSortedR (cVar a)))) rest))) P ⟨v, m⟩ := by
  have g : k.getD j 0 = k[j] := getD_get hj
  have hget : ∀ c : Cell, (m ++ [c])[m.length]? = some c := fun c => by simp
  refine st (s1 := ⟨v.set a (.c m.length), m ++ [.l (k.map PyData.int)]⟩) ?_ ?_
  · simp [hl, ldD]
    exact .rfl
  have va : (v.set a (.c m.length))[a]? = some (.c m.length) := by rw [List.getElem?_set_self ha]
  have vr : (v.set a (.c m.length))[r]? = some (.d (.int (j : Nat))) := by rw [List.getElem?_set_ne h1]; exact hr
  have ix := ixL hj
  have pu := putLR_s (n := m.length) (k := (j : Int)) (v := .int (f k[j])) (s3 := ⟨v.set a (.c m.length), m ++ [.l (k.map PyData.int)]⟩) (xs := k.map PyData.int) (hget _) (by omega) (by simp; omega)
  have hs : (k.map PyData.int).set j (.int (f k[j])) = (k.set j (f k[j])).map PyData.int := by rw [List.map_set]
  have hm : (m ++ [Cell.l (k.map PyData.int)]).set m.length (.l ((k.set j (f k[j])).map PyData.int)) = m ++ [.l ((k.set j (f k[j])).map PyData.int)] := by
    rw [List.set_append_right _ _ (Nat.le_refl _), Nat.sub_self]
    rfl
  rw [Int.toNat_natCast, hs, hm] at pu
  rw [g] at q
  refine st (s1 := ⟨v.set a (.c m.length), m ++ [.l ((k.set j (f k[j])).map PyData.int)]⟩) ?_ ?_
  · simp [va, vr, hget, ix, hop, pu, -List.map_set]
    exact .rfl
  refine st (s1 := ⟨(v.set a (.c m.length)).set t (.d (ldD (sortD (k.set j (f k[j]))))), m ++ [.l ((k.set j (f k[j])).map PyData.int)]⟩) ?_ q
  simp [va, hget, ldD, -List.map_set]
  exact .rfl
/-! ### sums over events -/
theorem sum_keys : ∀ {F : List (List Int × Int)}, (keys F).Nodup → ((keys F).map (wt F)).sum = sumW F
  | [], _ => rfl
  | p :: F, hn => by
    have hn : (p.1 :: keys F).Nodup := hn
    rw [List.nodup_cons] at hn
    show wt (p :: F) p.1 + ((keys F).map (wt (p :: F))).sum = p.2 + sumW F
    have e1 : wt (p :: F) p.1 = p.2 := by
      unfold wt
      rw [aget_cons, if_pos rfl]
      rfl
    have e2 : (keys F).map (wt (p :: F)) = (keys F).map (wt F) := by
      apply List.map_congr_left
      intro k hk
      unfold wt
      rw [aget_cons, if_neg fun z : p.1 = k => hn.1 (z ▸ hk)]
    rw [e1, e2, sum_keys hn.2]
end Vm
namespace Vm
open PySem L2 PySem.Spec PyProof.Rows
/-- the events of a leaving, by the rows ks -/
def goneE (F : List (List Int × Int)) (n : Nat) (ks : List (List Int)) : List (List Int × Int) := ks.flatMap fun k => evTo (decEv k fun r => wt F k * k.getD r 0) n
def goneF (F : List (List Int × Int)) (n : Nat) : List (List Int × Int) := accL (goneE F n (keys F))
section
variable {K n : Nat} {b : Int} {F : List (List Int × Int)}
theorem goneE_len (ks : List (List Int)) : (goneE F n ks).length ≤ ks.length * n := by
  unfold goneE
  induction ks with
  | nil => simp
  | cons a l ih =>
    rw [List.flatMap_cons, List.length_append, List.length_cons, Nat.succ_mul]
    have := evTo_len (f := decEv a fun r => wt F a * a.getD r 0) (j := n)
    omega
end
end Vm
namespace Vm
open PySem L2 PySem.Spec PyProof.Rows
/-! ### a load drawn -/
structure Ld (n : Nat) (b : Int) (k : List Int) : Prop where
  len : k.length = n
  pos : ∀ x, x ∈ k → 0 ≤ x
  sum : k.sum = b
  fall : k.Pairwise (· ≥ ·)
/-! ### a weight added to a cell -/
theorem aput_aput {β : Type} {F : List (List Int × β)} {k : List Int} {v w : β} : aput (aput F k v) k w = aput F k w := by
  have hk : k ∈ keys (aput F k v) := mem_aput.mpr (.inr rfl)
  rw [aput_old hk]
  by_cases h : k ∈ keys F
  · rw [aput_old h, aput_old h, List.map_map]
    apply List.map_congr_left
    intro p _
    show (if (if p.1 = k then (p.1, v) else p).1 = k then ((if p.1 = k then (p.1, v) else p).1, w) else (if p.1 = k then (p.1, v) else p)) = _
    by_cases hp : p.1 = k
    · simp [hp]
    · simp [hp]
  · rw [aput_new h, aput_new h, List.map_append]
    have : F.map (fun p => if p.1 = k then (p.1, w) else p) = F := by
      conv => rhs; rw [← List.map_id F]
      apply List.map_congr_left
      intro p hp
      have : p.1 ≠ k := fun z => h (z ▸ List.mem_map_of_mem (f := (·.1)) hp)
      rw [if_neg this]
      rfl
    rw [this]
    simp
theorem acc_acc {F : List (List Int × Int)} {k : List Int} {a b : Int} : accW (accW F (k, a)) (k, b) = accW F (k, a + b) := by
  unfold accW
  dsimp only
  rw [aput_aput, aget_aput, if_pos rfl]
  show aput F k ((aget F k).getD 0 + a + b) = _
  rw [Int.add_assoc]
theorem fiD_aput {F : List (List Int × Int)} {k : List Int} {v : Int} : aput (fiD F) k (.int v) = fiD (aput F k v) := by
  by_cases h : k ∈ keys F
  · rw [aput_old h, aput_old (by rw [keys_fiD]; exact h)]
    unfold fiD
    rw [List.map_map, List.map_map]
    apply List.map_congr_left
    intro p _
    show (if p.1 = k then (p.1, PyData.int v) else (p.1, PyData.int p.2)) = (fun p : List Int × Int => (p.1, PyData.int p.2)) (if p.1 = k then (p.1, v) else p)
    split <;> rfl
  · rw [aput_new h, aput_new (by rw [keys_fiD]; exact h)]
    unfold fiD
    rw [List.map_append]
    rfl
theorem kGet4_w {n : Nat} {F : List (List Int × Int)} {k : List Int} {s3 : S} (h : s3.m[n]? = some (.t (tkv (fiD F)))) : kGet4 (.ref n) (.d (ldD k)) (.d (.int 0)) s3 = .ok (.d (.int (wt F k))) s3 := by
  rw [kGet4_t h, aget_fiD]
  unfold wt
  cases aget F k <;> rfl
theorem putIn_w {F : List (List Int × Int)} {k : List Int} {v : Int} (h : F.length < 16000000) : putIn (.t (tkv (fiD F))) (ldD k) (.int v) = some (.t (tkv (fiD (aput F k v)))) := by
  rw [putIn_t (by unfold fiD; rw [List.length_map]; exact h), fiD_aput]
theorem put_acc {i t q : Nat} {v : List Sl} {m : List Cell} {F : List (List Int × Int)} {k : List Int} {c : Int} {ce : CE} (hi : v[i]? = some (.c q)) (ht : v[t]? = some (.d (ldD k))) (hq : m[q]? = some (.t (tkv (fiD F)))) (hF : F.length < 16000000) (hc : ce ⟨v, m⟩ = .ok (.d (.int c)) ⟨v, m⟩) :
    cPut (cVar i) (cVar t) (cOp2 opAdd (cGet (cVar i) (cVar t) (cC (.int 0))) ce) ⟨v, m⟩ = .nx ⟨v, m.set q (.t (tkv (fiD (accW F (k, c)))))⟩ := by
  have g := kGet4_w (n := q) (F := F) (k := k) (s3 := ⟨v, m⟩) hq
  have p := putR_s (n := q) (k := ldD k) (v := .int (wt F k + c)) (s3 := ⟨v, m⟩) hq
  rw [putIn_w hF] at p
  have e : aput F k (wt F k + c) = accW F (k, c) := rfl
  rw [e] at p
  simp [hi, ht, hq, g, hc, p]
end Vm
namespace Vm
open PySem L2 PySem.Spec PyProof.Rows
theorem aput_len {β : Type} {F : List (List Int × β)} {k : List Int} {v : β} : (aput F k v).length ≤ F.length + 1 := by
  unfold aput
  split
  · rw [List.length_map]; omega
  · rw [List.length_append]; exact Nat.le_refl _
theorem sum_ge {F : List (List Int × Int)} (hn : (keys F).Nodup) (h : ∀ k, k ∈ keys F → 0 ≤ wt F k) : 0 ≤ sumW F ∧ ∀ k, k ∈ keys F → wt F k ≤ sumW F := by
  rw [← sum_keys hn]
  have h0 : ∀ x, x ∈ (keys F).map (wt F) → 0 ≤ x := fun x hx => by
    obtain ⟨k, hk, rfl⟩ := List.mem_map.mp hx
    exact h k hk
  exact ⟨sum_nonneg h0, fun k hk => mem_le_sum h0 _ (List.mem_map_of_mem hk)⟩
/-! ### the law's own leaving -/
def cGone : CS :=
 (cSeq (cSetM 1 cNewT)
 (cSeq (cFor (ciKeyT (cVar 0)) (tgN 2)
 (cFor (ciEnum (cVar 2)) (tgTup 2 (tgCons (tgN 3) (tgCons (tgN 4) tgNil)))
 (cFor (ciR1 (cVar 4)) (tgN 5)
 (cSeq (cSetM 6 (cOp1 opList (cVar 2)))
 (cSeq (cPutL (cVar 6) (cVar 3) (cOp2 opSub (cOp2 opIx (cVar 6) (cVar 3)) (cC (.int 1))))
 (cSeq (cSet 7 (cOp1 opTuple (cOp1 opSortedR (cVar 6))))
 (cPut (cVar 1) (cVar 7) (cOp2 opAdd (cGet (cVar 1) (cVar 7) (cC (.int 0))) (cOp2 opItem (cVar 0) (cVar 2))))))))))
 (cRet (cVar 1))))
def fGone : Fn := runF 8 cGone
def addN (A : List (List Int × Int)) (t : List Int) (c : Int) (i : Nat) : List (List Int × Int) := if i = 0 then A else accW A (t, c * i)
theorem addN_succ {A : List (List Int × Int)} {t : List Int} {c : Int} {i : Nat} : accW (addN A t c i) (t, c) = addN A t c (i + 1) := by
  unfold addN
  rw [if_neg (Nat.succ_ne_zero i)]
  by_cases h : i = 0
  · subst h
    rw [if_pos rfl]
    simp
  · rw [if_neg h, acc_acc]
    congr 2
    rw [show ((i + 1 : Nat) : Int) = (i : Int) + 1 by omega, Int.mul_add, Int.mul_one]
theorem addN_len {A : List (List Int × Int)} {t : List Int} {c : Int} {i : Nat} : (addN A t c i).length ≤ A.length + 1 := by
  unfold addN
  split
  · omega
  · exact aput_len
theorem foldl_snoc {A : List (List Int × Int)} {E : List (List Int × Int)} {e : List Int × Int} : (E ++ [e]).foldl accW A = accW (E.foldl accW A) e := by
  rw [List.foldl_append]
  rfl
theorem foldl_len (E : List (List Int × Int)) : ∀ A : List (List Int × Int), (E.foldl accW A).length ≤ A.length + E.length := by
  induction E with
  | nil => intro G; exact Nat.le_refl _
  | cons e E ih =>
    intro G
    have h1 := ih (accW G e)
    have h2 : (accW G e).length ≤ G.length + 1 := aput_len
    show (E.foldl accW (accW G e)).length ≤ _
    rw [List.length_cons]
    omega
theorem gone_ok {n : Nat} {b : Int} {F : List (List Int × Int)} (hL : LdF n b F) (hn : (keys F).Nodup) (hl : F.length * n ≤ 100000) (hb : b ≤ 1000) : fGone [.d (dT (fiD F))] [] = .ok (.new (.t (tkv (fiD (goneF F n))))) [] := by
  let X0 : Sl := .d (dT (fiD F))
  have kl : (keys F).length = F.length := by unfold keys; rw [List.length_map]
  show fGone [X0] [] = _
  unfold fGone
  apply Ok.eq
  apply run_ok
  unfold cGone
  refine st (s1 := ⟨[X0, .c 0, .u, .u, .u, .u, .u, .u], [.t (tkv (fiD []))]⟩) (by simp; exact .rfl) ?_
  let St := fun (A : List (List Int × Int)) (s : S) => ∃ (x2 x3 x4 x5 x6 x7 : Sl) (r : List Cell), s = ⟨[X0, .c 0, x2, x3, x4, x5, x6, x7], .t (tkv (fiD A)) :: r⟩
  refine w_cut (St (goneF F n)) ?_ fun s hs => ?_
  · have ck := ciKeyT_dT (F := fiD F) (c := cVar 0) (s := ⟨[X0, .c 0, .u, .u, .u, .u, .u, .u], [.t (tkv (fiD []))]⟩) (s1 := ⟨[X0, .c 0, .u, .u, .u, .u, .u, .u], [.t (tkv (fiD []))]⟩) (by simp [X0])
    rw [keys_fiD] at ck
    refine w_for (ds := (keys F).map ldD) (fun i => St ((goneE F n ((keys F).take i)).foldl accW [])) ck ⟨_, _, _, _, _, _, _, rfl⟩ (fun i d s hd hi => ?_) fun s hi => by
      rw [List.length_map, List.take_length] at hi
      exact hi
    obtain ⟨x2, x3, x4, x5, x6, x7, r, rfl⟩ := hi
    rw [List.getElem?_map] at hd
    obtain ⟨k, hki, rfl⟩ := Option.map_eq_some_iff.mp hd
    have hk : k ∈ keys F := List.mem_of_getElem? hki
    have hil : i < (keys F).length := (List.getElem?_eq_some_iff.mp hki).1
    have hkl := hL.len k hk
    have ht : goneE F n ((keys F).take (i + 1)) = goneE F n ((keys F).take i) ++ evTo (decEv k fun r => wt F k * k.getD r 0) n := by
      unfold goneE
      rw [List.take_add_one, hki, List.flatMap_append]
      simp
    have hpre := goneE_len (F := F) (n := n) ((keys F).take i)
    rw [List.length_take, Nat.min_eq_left (by omega)] at hpre
    have hin : i * n + n ≤ 100000 := by
      have : (i + 1) * n ≤ F.length * n := Nat.mul_le_mul_right _ (by omega)
      rw [Nat.succ_mul] at this
      omega
    rw [ht]
    generalize goneE F n ((keys F).take i) = pre at *
    refine ⟨⟨[X0, .c 0, .d (ldD k), x3, x4, x5, x6, x7], _⟩, rfl, ?_⟩
    refine w_for (ds := enumD 0 (k.map PyData.int)) (fun j s => ∃ (x3 x4 x5 x6 x7 : Sl) (r : List Cell), s = ⟨[X0, .c 0, .d (ldD k), x3, x4, x5, x6, x7], .t (tkv (fiD ((pre ++ evTo (decEv k fun r => wt F k * k.getD r 0) j).foldl accW []))) :: r⟩) (s1 := ⟨[X0, .c 0, .d (ldD k), x3, x4, x5, x6, x7], .t (tkv (fiD (pre.foldl accW []))) :: r⟩) (by simp [ldD]; exact .rfl) ⟨x3, x4, x5, x6, x7, r, by simp [evTo]⟩ (fun j d s hd hj => ?_) fun s hj => ?_
    · obtain ⟨y3, y4, y5, y6, y7, r, rfl⟩ := hj
      obtain ⟨x, hx, rfl⟩ := enumD_at _ _ _ _ hd
      rw [Nat.zero_add]
      rw [List.getElem?_map] at hx
      obtain ⟨x, hx2, rfl⟩ := Option.map_eq_some_iff.mp hx
      have hjn : j < k.length := (List.getElem?_eq_some_iff.mp hx2).1
      have hgx : k.getD j 0 = x := by rw [List.getD_eq_getElem?_getD, hx2]; rfl
      have hxm : x ∈ k := List.mem_of_getElem? hx2
      have hx0 := hL.pos k hk x hxm
      have hxb : x ≤ b := by
        rw [← hL.sum k hk]
        exact mem_le_sum (hL.pos k hk) _ hxm
      have pl := evTo_len (f := decEv k fun r => wt F k * k.getD r 0) (j := j)
      have el : (pre ++ evTo (decEv k fun r => wt F k * k.getD r 0) j).length ≤ 100000 := by rw [List.length_append]; omega
      have fl := foldl_len (pre ++ evTo (decEv k fun r => wt F k * k.getD r 0) j) []
      rw [List.length_nil, Nat.zero_add] at fl
      refine ⟨⟨[X0, .c 0, .d (ldD k), .d (.int (j : Nat)), .d (.int x), y5, y6, y7], _⟩, rfl, ?_⟩
      rw [evTo_succ, ← List.append_assoc]
      generalize pre ++ evTo (decEv k fun r => wt F k * k.getD r 0) j = E at *
      obtain ⟨xn, rfl⟩ : ∃ xn : Nat, x = (xn : Int) := ⟨x.toNat, by omega⟩
      have r1 := ciR1_n (c := cVar 4) (s := ⟨[X0, .c 0, .d (ldD k), .d (.int (j : Nat)), .d (.int (xn : Nat)), y5, y6, y7], .t (tkv (fiD (E.foldl accW []))) :: r⟩) (s1 := ⟨[X0, .c 0, .d (ldD k), .d (.int (j : Nat)), .d (.int (xn : Nat)), y5, y6, y7], .t (tkv (fiD (E.foldl accW []))) :: r⟩) (n := xn) (by simp) (by omega)
      refine w_for (ds := (List.range xn).map fun i : Nat => PyData.int (i : Int)) (fun l s => ∃ (y5 y6 y7 : Sl) (r : List Cell), s = ⟨[X0, .c 0, .d (ldD k), .d (.int (j : Nat)), .d (.int (xn : Nat)), y5, y6, y7], .t (tkv (fiD (addN (E.foldl accW []) (dec k j) (wt F k) l))) :: r⟩) r1 ⟨y5, y6, y7, r, by simp [addN]⟩ (fun l d s hd hl => ?_) fun s hl => ?_
      · obtain ⟨z5, z6, z7, r, rfl⟩ := hl
        obtain ⟨hlx, rfl⟩ := rangeN_get hd
        refine ⟨⟨[X0, .c 0, .d (ldD k), .d (.int (j : Nat)), .d (.int (xn : Nat)), .d (.int (l : Nat)), z6, z7], _⟩, rfl, ?_⟩
        refine w_chg (op := opSub) (f := fun x => x - 1) (k := k) (j := j) rfl rfl hjn (fun x => rfl) (by simp) (by decide) ?_
        have it : opItem (.d (dT (fiD F))) (.d (ldD k)) = some (.d (.int (wt F k))) := opItem_dT (by rw [aget_fiD, aget_wt hk]; rfl)
        have al := addN_len (A := E.foldl accW []) (t := dec k j) (c := wt F k) (i := l)
        have pa := put_acc (i := 1) (t := 7) (q := 0) (v := [X0, .c 0, .d (ldD k), .d (.int (j : Nat)), .d (.int (xn : Nat)), .d (.int (l : Nat)), .c (r.length + 1), .d (ldD (dec k j))]) (m := .t (tkv (fiD (addN (E.foldl accW []) (dec k j) (wt F k) l))) :: (r ++ [.l ((k.set j (k.getD j 0 - 1)).map PyData.int)])) (k := dec k j) (c := wt F k) (ce := cOp2 opItem (cVar 0) (cVar 2)) rfl rfl rfl (by omega) (by simp [X0, it])
        rw [addN_succ] at pa
        exact st_last pa ⟨_, _, _, _, rfl⟩
      · obtain ⟨z5, z6, z7, r, rfl⟩ := hl
        refine ⟨.d (.int (j : Nat)), .d (.int (xn : Nat)), z5, z6, z7, r, ?_⟩
        have e : addN (E.foldl accW []) (dec k j) (wt F k) ((List.range xn).map fun i : Nat => PyData.int (i : Int)).length = (E ++ (decEv k (fun r => wt F k * k.getD r 0) j).toList).foldl accW [] := by
          rw [List.length_map, List.length_range]
          unfold addN decEv
          rw [hgx]
          by_cases h0 : xn = 0
          · subst h0
            simp
          · rw [if_neg h0, if_pos (by omega)]
            show _ = (E ++ [(dec k j, wt F k * k.getD j 0)]).foldl accW []
            rw [hgx]
            exact foldl_snoc.symm
        rw [e]
    · obtain ⟨y3, y4, y5, y6, y7, r, rfl⟩ := hj
      rw [enumD_length, List.length_map, hkl]
      exact ⟨_, _, _, _, _, _, _, rfl⟩
  · obtain ⟨x2, x3, x4, x5, x6, x7, r, rfl⟩ := hs
    refine w_ret (x := .ref 0) (by simp; exact .rfl) ?_
    exact ok_cell (c := .t (tkv (fiD (goneF F n)))) (by decide) rfl (by intro z; cases z) ⟨rfl, rfl⟩
end Vm
namespace Vm
open PySem L2 PySem.Spec PyProof.Rows
/-! ### how many loads there are -/
def allL : Nat → Nat → Nat → List (List Int)
  | 0, b, _ => if b = 0 then [[]] else []
  | n + 1, b, m => (List.range (min b m + 1)).flatMap fun f => (allL n (b - f) f).map ((f : Int) :: ·)
theorem allL_mem : ∀ {n b m : Nat} {k : List Int}, Ld n b k → (∀ x, x ∈ k → x ≤ (m : Int)) → k ∈ allL n b m
  | 0, b, m, k, h, hm => by
    have hk : k = [] := List.eq_nil_of_length_eq_zero h.len
    subst hk
    have := h.sum
    unfold allL
    rw [if_pos (by simp at this; omega)]
    exact List.mem_cons_self ..
  | n + 1, b, m, k, h, hm => by
    obtain ⟨x, t, rfl⟩ : ∃ x t, k = x :: t := by
      cases k with
      | nil => have := h.len; simp at this
      | cons x t => exact ⟨x, t, rfl⟩
    have hx := h.pos x (List.mem_cons_self ..)
    have hp := h.fall
    rw [List.pairwise_cons] at hp
    have hsum := h.sum
    rw [List.sum_cons] at hsum
    have ht0 : 0 ≤ t.sum := sum_nonneg fun y hy => h.pos y (List.mem_cons_of_mem _ hy)
    have hxm := hm x (List.mem_cons_self ..)
    unfold allL
    refine List.mem_flatMap.mpr ⟨x.toNat, List.mem_range.mpr (by omega), List.mem_map.mpr ⟨t, ?_, by rw [Int.toNat_of_nonneg hx]⟩⟩
    refine allL_mem ⟨by have := h.len; simpa using this, fun y hy => h.pos y (List.mem_cons_of_mem _ hy), by omega, hp.2⟩ fun y hy => ?_
    have := hp.1 y hy
    omega
theorem nodup_len {α : Type} [DecidableEq α] : ∀ {xs ys : List α}, xs.Nodup → (∀ x, x ∈ xs → x ∈ ys) → xs.length ≤ ys.length
  | [], ys, _, _ => Nat.zero_le _
  | x :: xs, ys, hn, h => by
    rw [List.nodup_cons] at hn
    have hx := h x (List.mem_cons_self ..)
    have := nodup_len (ys := ys.erase x) hn.2 fun y hy => by
      have hne : y ≠ x := fun z => hn.1 (z ▸ hy)
      exact (List.mem_erase_of_ne hne).mpr (h y (List.mem_cons_of_mem _ hy))
    rw [List.length_erase_of_mem hx] at this
    have := List.length_pos_of_mem hx
    rw [List.length_cons]
    omega
theorem allL_tab : ((List.range 7).all fun n => (List.range 13).all fun b => decide ((allL n b b).length ≤ 60)) = true := by decide +kernel
theorem allL_tab2 : ((List.range 3).all fun n => (List.range 61).all fun b => decide ((allL n b b).length ≤ 60)) = true := by decide +kernel
theorem few {n b : Nat} {ks : List (List Int)} (hn : ks.Nodup) (h : ∀ k, k ∈ ks → Ld n b k) (hb : (n ≤ 6 ∧ b ≤ 12) ∨ (n ≤ 2 ∧ b ≤ 60)) : ks.length ≤ 60 := by
  have h1 := nodup_len hn (ys := allL n b b) fun k hk => allL_mem (h k hk) fun x hx => by
    rw [← (h k hk).sum]
    exact mem_le_sum (h k hk).pos _ hx
  rcases hb with ⟨h2, h3⟩ | ⟨h2, h3⟩
  · have := of_decide_eq_true (List.all_eq_true.mp (List.all_eq_true.mp allL_tab n (List.mem_range.mpr (by omega))) b (List.mem_range.mpr (by omega)))
    omega
  · have := of_decide_eq_true (List.all_eq_true.mp (List.all_eq_true.mp allL_tab2 n (List.mem_range.mpr (by omega))) b (List.mem_range.mpr (by omega)))
    omega
/-! ### a spread as a text -/
end Vm
namespace Vm
open PySem L2 PySem.Spec PyProof.Rows
section
variable {X : Cx} {ec : EC} {W : WX}
/-- a method without arguments of a list just made -/
def cMutN (f : List D → List D → Option (D × List D)) (co : CE) : CE := fun s => (co s).bind fun a s1 => match a with
  | .new (.l xs) => match f xs [] with
    | some (d, _) => .ok (.d d) s1
    | none => .bad
  | _ => .bad
end
@[simp] theorem cMutN_l {f : List D → List D → Option (D × List D)} {co : CE} {s s1 : S} {xs ys : List D} {d : D} (h : co s = .ok (.new (.l xs)) s1) (hf : f xs [] = some (d, ys)) : cMutN f co s = .ok (.d d) s1 := by
  unfold cMutN
  rw [h]
  show (match f xs [] with
    | some (d, _) => R.ok (Rv.d d) s1
    | none => .bad) = _
  rw [hf]
end Vm
namespace Vm
open PySem L2 PySem.Spec PyProof.Rows
/-! ### put, after -/
/-! ### steps of coming -/
/-- what holds behind k balls -/
structure InvC (n b k c : Nat) (F : List (List Int × Int)) (ds : List D) : Prop where
  ld : LdF n ((b : Int) + k) F
  fl : ∀ t, t ∈ keys F → t.Pairwise (· ≥ ·)
  ok : WOk (7 + c * k) F
  spr : Spr (7 + c * k) F ds
theorem InvC.few {n b k c : Nat} {F : List (List Int × Int)} {ds : List D} (h : InvC n b k c F ds) (hb : (n ≤ 6 ∧ b + k ≤ 12) ∨ (n ≤ 2 ∧ b + k ≤ 60)) : F.length ≤ 60 := by
  have := Vm.few (n := n) (b := b + k) (ks := keys F) h.ok.nd (fun t ht => ⟨h.ld.len t ht, h.ld.pos t ht, by rw [h.ld.sum t ht]; omega, h.fl t ht⟩) hb
  unfold keys at this
  rw [List.length_map] at this
  exact this
end Vm
namespace Vm
open PySem L2 PySem.Spec PyProof.Rows
/-! ### stands: numbers by boxes -/
def insS (k : List Int) (r : Nat) : List Int := k.set r (k.getD r 0 + 1)
theorem insS_len {k : List Int} {r : Nat} : (insS k r).length = k.length := by unfold insS; rw [List.length_set]
theorem insS_sum {k : List Int} {r : Nat} (h : r < k.length) : (insS k r).sum = k.sum + 1 := by
  unfold insS
  rw [sum_set _ _ _ h, getD_get h]
  omega
theorem insS_pos {k : List Int} {r : Nat} (h : r < k.length) (hp : ∀ x, x ∈ k → 0 ≤ x) : ∀ x, x ∈ insS k r → 0 ≤ x := fun x hx => by
  unfold insS at hx
  rcases List.mem_or_eq_of_mem_set hx with h1 | h1
  · exact hp x h1
  · have := hp _ (List.getElem_mem h)
    rw [getD_get h] at h1
    omega
/-! ### nets -/
structure Net where
  n : Nat
  ps : List (Nat × Nat)
  lf : Bool
/-- where the two halves of a pair go -/
def goal (lf : Bool) (k : List Int) (p : Nat × Nat) : Nat × Nat :=
  if k.getD p.1 0 < k.getD p.2 0 ∨ (k.getD p.1 0 = k.getD p.2 0 ∧ lf = true) then (p.1, p.1) else if k.getD p.2 0 < k.getD p.1 0 then (p.2, p.2) else p
def two (p : Nat × Nat) : List Nat := [p.1, p.2]
def goals (N : Net) (k : List Int) : List Nat := N.ps.flatMap fun p => two (goal N.lf k p)
def hv (N : Net) (k : List Int) : List Int := (goals N k).foldl insS (List.replicate N.n 0)
end Vm
namespace Vm
open PySem L2 PySem.Spec PyProof.Rows
/-! ### nets and stands drawn -/
/-- a stand of n boxes and b balls -/
structure Sd (n : Nat) (b : Int) (k : List Int) : Prop where
  len : k.length = n
  pos : ∀ x, x ∈ k → 0 ≤ x
  sum : k.sum = b
end Vm
namespace Vm
open PySem L2 PySem.Spec PyProof PyProof.Rows PySem.W
/-! ### sorted(t), t a tuple of ints -/
theorem collect_tup {prog : Program} {w : World} {A : Around} {E : Value → Shared → Prop} {s : Shared} {l : Addr} {vs : List Value} {Q : List Value → Shared → Prop} {o : Obj} {n : Nat}
    (ho : s.heap.get? l = some o) (hc : o.cls = .type "tuple") (hd : o.data = .seq vs.toArray n) (hsz : vs.length ≤ sizeLine)
    (h : Q vs { heap := (s.heap.push (seqObj "list" #[] 0)).update s.heap.objs.size (Obj.mapSeq fun x => x ++ vs.toArray), gens := s.gens, drawn := s.drawn, toks := s.toks, os := s.os }) : wpAny (model prog w) A (collect (.ref l)) Q E s := by
  unfold collect
  refine wpAny_bind (wpAny_runValue (codeAny_builtin entry_proto_collect' ?_))
  unfold Builtin.«proto.collect»
  refine wpAny_bind (wpAny_newList (wpAny_pure ⟨Code.quiet_builtin _ (by decide +kernel), codeAny_builtin entry_list_iadd' ?_⟩) (by show (0 : Nat) ≤ sizeLine; exact Nat.zero_le _))
  have ho' := Heap.get?_push_of_some (seqObj "list" #[] 0) ho
  show wpAny _ _ (Builtin.List.listExtendWith (.ref s.heap.objs.size) (.ref l) (.ref s.heap.objs.size)) _ _ _
  unfold Builtin.List.listExtendWith
  refine wpAny_bind (wpAny_typeOf (v := .ref l) (T := "tuple") ⟨o, ho', hc⟩ ?_)
  rw [if_pos (by simp)]
  refine wpAny_bind (listItems_at ho' hd (wpAny_bind (listItems_at (Heap.get?_push_size s.1 rfl) rfl ?_)))
  rw [if_neg (by simp)]
  refine wpAny_bind (listUpdate_at (Heap.get?_push_size s.1 rfl) rfl (wpAny_pure ?_) (Nat.zero_le sizeLine) ?_)
  · refine wpAny_bind (wpAny_load (get?_update_seq (Heap.get?_push_size s.1 rfl) fun x => x ++ vs.toArray) ?_)
    have e : (#[] ++ vs.toArray).toList = vs := by simp
    show wpAny (model prog w) A (pure (#[] ++ vs.toArray).toList) Q E _
    rw [e]
    exact wpAny_pure h
  · simp
    omega
theorem sorted_of_tup {prog : Program} {w : World} {A : Around} {E : Value → Shared → Prop} {s : Shared} {l : Addr} {vs : List Value} {kw : List (Str × Value)} {Q : Value → Shared → Prop} {o : Obj} {n : Nat}
    (ho : s.heap.get? l = some o) (hc : o.cls = .type "tuple") (hd : o.data = .seq vs.toArray n) (hL : vs.length ≤ sizeLine) (ha1 : argsOk "sorted" { pos := [Value.ref l], kw := kw }) (ha2 : ∀ x : Addr, argsOk "list.sort" { pos := [Value.ref x], kw := kw })
    (body : ∀ E' : Value → Shared → Prop, wpAny (model prog w) A.in1.in1 (Builtin.«list.sort» { pos := [Value.ref (s.heap.objs.size + 1)], kw := kw }) (fun f s' => f = Fin.done (Flow.ret Value.none) ∧ Q (Value.ref (s.heap.objs.size + 1)) s') E' { heap := copyHeap s.heap vs, gens := s.gens, drawn := s.drawn, toks := s.toks, os := s.os }) :
    wpAny (model prog w) A (call (Value.builtin "sorted") [Value.ref l] kw) Q E s := by
  refine call_function_entry_kw kind_sorted plain_sorted entry_sorted ha1 ?_
  unfold Builtin.«sorted»
  refine wpAny_bind (m := checkCount "sorted" 1 1 _) (wpAny_pure ?_)
  refine wpAny_bind (collect_tup ho hc hd hL ?_)
  refine wpAny_bind (wpAny_newList ?_ hL)
  have hsz : ((s.heap.push (seqObj "list" #[] 0)).update s.heap.objs.size (Obj.mapSeq fun x => x ++ vs.toArray)).objs.size = s.heap.objs.size + 1 := by
    rw [Heap.size_update]
    exact Array.size_push ..
  show wpAny (model prog w) A.in1 (do
      let _ ← holding [Value.ref ((s.heap.push (seqObj "list" #[] 0)).update s.heap.objs.size (Obj.mapSeq fun x => x ++ vs.toArray)).objs.size] (call (Value.builtin "list.sort") [Value.ref ((s.heap.push (seqObj "list" #[] 0)).update s.heap.objs.size (Obj.mapSeq fun x => x ++ vs.toArray)).objs.size] kw)
      ret (Value.ref ((s.heap.push (seqObj "list" #[] 0)).update s.heap.objs.size (Obj.mapSeq fun x => x ++ vs.toArray)).objs.size)) _ E { heap := copyHeap s.heap vs, gens := s.gens, drawn := s.drawn, toks := s.toks, os := s.os }
  rw [hsz]
  refine wpAny_bind (wpAny_holding (wpAny_call_entry_kw slot_list_sort ⟨seqObj "list" vs.toArray 0, copyHeap_at s.heap vs, rfl⟩ entry_list_sort ?_ (ha2 (s.heap.objs.size + 1))))
  refine wpAny_mono (body E) (fun f s' hf => ?_) fun _ _ e => e
  obtain ⟨rfl, hq⟩ := hf
  exact ⟨Value.none, rfl, wpAny_pure ⟨_, rfl, hq⟩⟩
theorem sorted_tup {prog : Program} {w : World} {A : Around} {E : Value → Shared → Prop} {s : Shared} {l : Addr} {vs : List Value} {ns : List Int} {b : Bool} {Q : Value → Shared → Prop} {o : Obj} {n : Nat}
    (ho : s.heap.get? l = some o) (hc : o.cls = .type "tuple") (hd : o.data = .seq vs.toArray n) (e : EachIs (fun v (i : Int) => ∃ t, v = Value.int i t) vs ns) (hL : ns.length ≤ sizeLine) (hu : A.units + 4 < cLine)
    (h : ∀ out : List Value, out.length = ns.length → EachIs (fun v (i : Int) => ∃ t, v = Value.int i t) out (ns.mergeSort (dataLe b PyData.int)) → Q (Value.ref (s.heap.objs.size + 1)) { heap := sortedAll s.heap vs out.toArray, gens := s.gens, drawn := s.drawn, toks := s.toks, os := s.os }) :
    wpAny (model prog w) A (call (Value.builtin "sorted") [Value.ref l] [("reverse", Value.bool b)]) Q E s := by
  have hal : AllAlike (ns.map PyData.int) := fun d hd d' hd' => by
    obtain ⟨i, _, rfl⟩ := List.mem_map.mp hd
    obtain ⟨j, _, rfl⟩ := List.mem_map.mp hd'
    rfl
  have hk : Sortable (ns.map PyData.int) := .inr fun d hd => by
    obtain ⟨i, _, rfl⟩ := List.mem_map.mp hd
    exact ⟨(fun z => by cases z), fun xs z => by cases z⟩
  have er' : EachIs (fun v (i : Int) => ∃ as, Reads (sortingHeap (copyHeap s.heap vs) (s.heap.objs.size + 1) vs) v (PyData.int i) as) vs ns := e.mono fun v i q => by
    obtain ⟨t, rfl⟩ := q
    exact ⟨[], .int _ _⟩
  have hl : vs.length = ns.length := EachIs.length e
  refine sorted_of_tup ho hc hd (by omega) (args_sorted_rev (Value.ref l) (Value.bool b)) (fun x => args_list_sort_rev (Value.ref x) (Value.bool b)) fun E' => ?_
  refine list_sort_rev_vals (copyHeap_at s.heap vs) (SortsAt.data (each_map PyData.int er') hal hk (bound_map fun i _ => ?_)) (by omega) ⟨rfl, h _ (by rw [sortVals_length b rfl]; exact hl) (sortVals_data b e er' hal)⟩
  have e1 : A.in1.in1.units = A.units + 2 := rfl
  show A.in1.in1.units + 0 < cLine
  omega
theorem dataLe_down : dataLe true PyData.int = fun x y : Int => decide (y ≤ x) := dataGe_int fun x : Int => x
theorem sort_down (ns : List Int) : ns.mergeSort (dataLe true PyData.int) = sortD ns := by
  rw [dataLe_down]
  refine sorted_one ((List.mergeSort_perm _ _).trans (sortD_perm ns).symm) ?_ (sortD_pw ns)
  have := List.pairwise_mergeSort (le := fun x y : Int => decide (y ≤ x)) (fun a b c h1 h2 => decide_eq_true (Int.le_trans (of_decide_eq_true h2) (of_decide_eq_true h1))) (fun a b => by
    rcases Int.le_total a b with h | h
    · simp [h]
    · simp [h]) ns
  exact this.imp fun h => of_decide_eq_true h
theorem each_int : ∀ {ns : List Int} {us : List Value}, Vals (ns.map V.int) us → EachIs (fun v (i : Int) => ∃ t, v = Value.int i t) us ns
  | [], us, h => by cases h; exact .nil
  | i :: ns, us, h => by
    cases h with
    | cons r t =>
      obtain ⟨tk, rfl⟩ := r
      exact .cons ⟨tk, rfl⟩ (each_int t)
theorem vals_int : ∀ {ns : List Int} {us : List Value}, EachIs (fun v (i : Int) => ∃ t, v = Value.int i t) us ns → Vals (ns.map V.int) us
  | _, _, .nil => .nil
  | _, _, .cons r t => by
    obtain ⟨tk, rfl⟩ := r
    exact .cons ⟨tk, rfl⟩ (vals_int t)
def rSortTp (K : Fg) (f : List Int → List Int) : V → Hp → VK → Prop := fun x H Q => ∃ (a : Addr) (ns : List Int), x = .ref a ∧ SqT K H a (ns.map V.int) ∧ ∀ l : Addr, H l = none → Q (.ref l) (upd H l (.lst ((f ns).map V.int)))
section
variable {X : Cx}
theorem cr_sortTpR (hu : X.A.units + 64 < cLine) : CallRK X (.builtin "sorted") ["reverse"] (fun xs zs H Q => ∃ x, xs = [x] ∧ zs = [.bl true] ∧ rSortTp X.K sortD x H Q) := by
  intro pins s σ H xs zs us ws Q I r rz h
  obtain ⟨x, rfl, rfl, a, ns, rfl, ht, q⟩ := h
  rw [Vals.ref1 r]
  obtain ⟨w1, rfl, e1⟩ := L2.vals1 rz
  have e1 : w1 = Value.bool true := e1
  subst e1
  obtain ⟨its, rv, ⟨o, ho, hc, n, hd⟩, hz⟩ := I.tuple ht
  rw [List.length_map] at hz
  refine sorted_tup (b := true) ho hc hd (each_int rv) hz (by omega) fun out ol oe => ?_
  rw [sort_down] at oe
  obtain ⟨c, hcc⟩ := sortedAll_at s.heap its out.toArray
  refine ⟨.ref _, _, I.laid (t' := s.toks) (o := .lst ((sortD ns).map V.int)) (fun _ _ => sortedAll_old) (Nat.le_succ _) ?_, rfl, q _ (I.hok.fresh (Nat.le_succ _))⟩
  exact ⟨by rw [List.length_map, sortD_len]; exact hz, out, c, vals_int oe, hcc⟩
def opSortTp (f : List Int → List Int) : Od → Option Rv
  | .d (.tuple ds) => (ints? ds).bind fun ns => some (.new (.l ((f ns).map PyData.int)))
  | _ => none
abbrev opSortTD : Od → Option Rv := opSortTp sortD
theorem s_sortTp {K : Fg} {f : List Int → List Int} : Op1S K (rSortTp K f) (opSortTp f) := by
  intro w x o rv Q hx h e q
  unfold opSortTp at e
  split at e
  · obtain ⟨ns, e1, e2⟩ := Option.bind_eq_some_iff.mp e
    cases e2
    rw [ints?_eq e1] at h
    obtain ⟨p, vs, rfl, hs, ra⟩ := h.tup
    rw [rp_ints ra] at hs
    exact ⟨p, ns, rfl, SqT.of (hx _ _ hs), fun l hl => post_lst q (rpAll_ints _) hl hx⟩
  · cases e
variable {ec : EC} {W : WX}
theorem e_sortTD {a : Expr} {ca : CE} {p pos kp bp : Pos} {j : Nat} (hu : X.A.units + 64 < cLine) (hm : X.mg "sorted" = none) (ha : Ex X ec W a ca) (hg : Gl X "sorted" := by rfl) (h1 : starEach [a] X.env = (false, eval a X.env) :: starEach [] X.env := by rfl)
    (he : backTo pos (starEach [a] X.env) = (false, eval a X.env) :: backTo pos (starEach [] X.env) := by rfl) (hpl : (backTo pos (starEach [a] X.env)).any (·.1) = false := by rfl) : Ex X ec W (.Call (.Name "sorted" p) [a] [⟨some "reverse", .Constant (.bool true) j bp, kp⟩] pos) (cOp1 opSortTD ca) :=
  (pe_callBK (cr_sortTpR hu) hg hm (by decide +kernel) (pa_cons ha pa_nil h1) (pk_cons pe_bl pk_nil) (by decide) (by decide) he hpl).imp fun _ _ _ h => rd_imp (op1 s_sortTp h) fun x H1 q => ⟨x, rfl, rfl, q⟩
end
end Vm
namespace Vm
open PySem L2 PySem.Spec PyProof.Rows
/-! ### balls one behind another, so many bits a ball -/
/-! ### the loads of stands -/
def fLoadOf : Fn := runF 1 (cRet (cOp1 opTuple (cOp1 opSortTD (cVar 0))))
end Vm
namespace Vm
open PySem L2 PySem.Spec PyProof.Rows
/-! ### nets in which each box stands as often -/
structure Half (n j : Nat) (zs : List (Nat × Nat)) (xs : List Nat) : Prop where
  fst : zs.map (·.1) = List.range j
  prm : (zs.map (·.2) ++ xs).Perm (List.range n)
theorem Half.len {n j : Nat} {zs : List (Nat × Nat)} {xs : List Nat} (h : Half n j zs xs) : zs.length = j ∧ j + xs.length = n := by
  have h1 := congrArg List.length h.fst
  have h2 := h.prm.length_eq
  rw [List.length_map, List.length_range] at h1
  rw [List.length_append, List.length_map, List.length_range] at h2
  omega
theorem Half.lt {n j : Nat} {zs : List (Nat × Nat)} {xs : List Nat} (h : Half n j zs xs) : ∀ q, q ∈ zs → q.1 < n ∧ q.2 < n := fun q hq => by
  have l := h.len
  have h1 : q.1 ∈ zs.map (·.1) := List.mem_map_of_mem hq
  rw [h.fst, List.mem_range] at h1
  have h2 : q.2 ∈ zs.map (·.2) ++ xs := List.mem_append_left _ (List.mem_map_of_mem (f := (·.2)) hq)
  have h3 := List.mem_range.mp (h.prm.mem_iff.mp h2)
  exact ⟨by omega, h3⟩
end Vm
/-! Vm82: len(set(xs)) of a list of ints -/
/-! Vm83: repr of data with dicts anywhere, and of a dict with tuple keys -/
namespace Vm
open PySem L2 PySem.Spec PyProof.Rows
mutual
/-- no dict with tuple keys -/
def noTg : D → Bool
  | .none | .bool _ | .int _ | .str _ => true
  | .list xs => noTgAll xs
  | .tuple xs => noTgAll xs
  | .dict es => (match es with | (.list [], .none) :: _ => false | (.list [.none], .none) :: _ => false | (.list [.bool true], .none) :: _ => false | _ => true) && noTgKv es
def noTgAll : List D → Bool
  | [] => true
  | x :: xs => noTg x && noTgAll xs
def noTgKv : List (D × D) → Bool
  | [] => true
  | (_, v) :: r => noTg v && noTgKv r
end
/-- a dict with tuple keys is shown without its mark -/
def shX : D → D
  | .dict ((.list [], .none) :: es) => .dict es
  | d => d
def tgTop : D → Bool
  | .dict ((.list [], .none) :: es) => noTgKv es
  | d => noTg d
def okrX (d : D) : Bool := tgTop d && decide ((shX d).depth ≤ 60) && (shX d).showable && decide ((shX d).shown.length ≤ 16000000)
def opReprX : Od → Option Rv
  | .d d => if okrX d = true then some (.d (.str (shX d).shown)) else none
  | _ => none
end Vm
namespace Vm
open PySem L2
/-! ### the fourth draw: a list pen that holds the script itself -/
def cRestS : CS :=
 (cSeq (cIfS (tAnd' (cB (cOp2 opLt (cVar 3) (cOp1 opLen (cOp2 opIx (cVar 0) (cC (.int 0)))))) (cB (cOp2 opGe (cOp1 opAbs (cVar 4)) (cOp2 opPow (cC (.int 10)) (cC (.int 18))))))
 (cSeq (cPutL (cVar 0) (cC (.int 2)) (cOp2 opDiv (cOp1 opAbs (cVar 4)) (cVar 1)))
 (cRet (cOp2 opMod (cOp1 opAbs (cVar 4)) (cVar 1))))
 cNx)
 (cSeq (cSet 5 (cOp2 opIx (cTup (cCons (cC (.int 2147483629)) (cCons (cC (.int 2147483587)) (cCons (cC (.int 2147483647)) (cCons (cC (.int 2147483563)) (cCons (cC (.int 2147483579)) (cCons (cC (.int 2147483543)) (cCons (cC (.int 2147483549)) cNil)))))))) (cOp2 opMod (cVar 3) (cC (.int 7)))))
 (cSeq (cSet 6 (cOp2 opMod (cOp2 opPow (cOp2 opAdd (cOp2 opMulV (cOp2 opMod (cVar 4) (cVar 5)) (cOp2 opAdd (cOp2 opMulV (cC (.int 2)) (cVar 3)) (cC (.int 5)))) (cVar 3)) (cC (.int 5))) (cVar 5)))
 (cSeq (cSet 6 (cOp2 opMod (cOp2 opAdd (cOp2 opMulV (cVar 6) (cOp2 opAdd (cOp2 opAdd (cOp2 opMod (cVar 6) (cC (.int 65519))) (cVar 3)) (cC (.int 1)))) (cOp2 opMod (cVar 4) (cC (.int 65521)))) (cC (.int 2147483489))))
 (cRet (cOp2 opMod (cOp2 opDiv (cVar 6) (cC (.int 32))) (cVar 1)))))))
def cDrawS : CS :=
 (cSeq (cIfS (cB (cOp2 opGt (cOp2 opIx (cVar 0) (cC (.int 2))) (cC (.int 0))))
 (cSeq (cSet 2 (cOp2 opMod (cOp2 opIx (cVar 0) (cC (.int 2))) (cVar 1)))
 (cSeq (cPutL (cVar 0) (cC (.int 2)) (cOp2 opDiv (cOp2 opIx (cVar 0) (cC (.int 2))) (cVar 1)))
 (cRet (cVar 2))))
 cNx)
 (cSeq (cSet 3 (cOp2 opIx (cVar 0) (cC (.int 1))))
 (cSeq (cPutL (cVar 0) (cC (.int 1)) (cOp2 opAdd (cVar 3) (cC (.int 1))))
 (cSeq (cSet 4 (cOp2 opAdd (cOp2 opMulV (cC (.int 13)) (cVar 3)) (cC (.int 7))))
 (cSeq (cIfS (cB (cOp2 opGt (cOp1 opLen (cOp2 opIx (cVar 0) (cC (.int 0)))) (cC (.int 0))))
 (cSet 4 (cOp2 opIx (cOp2 opIx (cVar 0) (cC (.int 0))) (cOp2 opMod (cVar 3) (cOp1 opLen (cOp2 opIx (cVar 0) (cC (.int 0)))))))
 cNx)
 cRestS)))))
def fDrawS : Fn := runF 7 cDrawS
theorem restS {cells : List Int} {at' c many : Int} {r : List Cell} {B : Nat} (h63 : cells.length ≤ 63) (ha0 : 0 ≤ at') (haB : at' ≤ B) (hB : B < 1000000) (hm : 0 < many) (hm2 : many.natAbs.log2 < 9000) :
    ∃ v p' v', cRestS ⟨[.c 0, .d (.int many), .u, .d (.int at'), .d (.int c), .u, .u], penL cells (at' + 1) 0 :: r⟩ = .rt (.d (.int v)) ⟨v', p' :: r⟩ ∧ 0 ≤ v ∧ v < many ∧ IsPenL (B + 1) p' := by
  have hp : opPow (.d (.int 10)) (.d (.int 18)) = some (.d (.int 1000000000000000000)) := rfl
  obtain ⟨a, ha⟩ : ∃ a : Int, (if c < 0 then -c else c) = a := ⟨_, rfl⟩
  have oa : opAbs (.d (.int c)) = some (.d (.int a)) := by rw [← ha]; rfl
  have ab : 0 ≤ a := by rw [← ha]; split <;> omega
  by_cases h : at' < cells.length ∧ 1000000000000000000 ≤ a
  · refine ⟨a % many, penL cells (at' + 1) (a / many), [.c 0, .d (.int many), .u, .d (.int at'), .d (.int c), .u, .u], ?_, Int.emod_nonneg _ (by omega), Int.emod_lt_of_pos _ hm, cells, at' + 1, _, rfl, h63, by omega, by omega, Int.ediv_nonneg ab (by omega)⟩
    simp [-opAbs_i, oa, cRestS, hp, h.1, h.2, opMod_i hm, opDiv_i hm hm2, penL, gL0, pL2]
  · have hn : (at' < cells.length → ¬ (1000000000000000000 ≤ a)) := fun a b => h ⟨a, b⟩
    obtain ⟨pr, hpr, hp0, hpb⟩ : ∃ pr : Int, atI [PyData.int 2147483629, .int 2147483587, .int 2147483647, .int 2147483563, .int 2147483579, .int 2147483543, .int 2147483549] (at' % 7) = some (.int pr) ∧ 0 < pr ∧ pr ≤ 2147483647 := by
      have h7 : at' % 7 = 0 ∨ at' % 7 = 1 ∨ at' % 7 = 2 ∨ at' % 7 = 3 ∨ at' % 7 = 4 ∨ at' % 7 = 5 ∨ at' % 7 = 6 := by omega
      rcases h7 with e | e | e | e | e | e | e <;> rw [e]
      · exact ⟨2147483629, rfl, by decide, by decide⟩
      · exact ⟨2147483587, rfl, by decide, by decide⟩
      · exact ⟨2147483647, rfl, by decide, by decide⟩
      · exact ⟨2147483563, rfl, by decide, by decide⟩
      · exact ⟨2147483579, rfl, by decide, by decide⟩
      · exact ⟨2147483543, rfl, by decide, by decide⟩
      · exact ⟨2147483549, rfl, by decide, by decide⟩
    have hc1 : 0 ≤ c % pr := Int.emod_nonneg _ (by omega)
    have hc2 : c % pr < pr := Int.emod_lt_of_pos _ hp0
    have m0 : opMulV (.d (.int 2)) (.d (.int at')) = some (.d (.int (2 * at'))) := opMul_i (mulOk_small (by omega) (by omega))
    have m1 : opMulV (.d (.int (c % pr))) (.d (.int (2 * at' + 5))) = some (.d (.int (c % pr * (2 * at' + 5)))) := opMul_i (mulOk_small (by omega) (by omega))
    have b0 : 0 ≤ c % pr * (2 * at' + 5) := Int.mul_nonneg hc1 (by omega)
    have b1 : c % pr * (2 * at' + 5) ≤ 2147483647 * 2000005 := Int.mul_le_mul (by omega) (by omega) (by omega) (by omega)
    have p1 : opPow (.d (.int (c % pr * (2 * at' + 5) + at'))) (.d (.int 5)) = some (.d (.int ((c % pr * (2 * at' + 5) + at') ^ 5))) := opPow_i (by decide) (by decide) (by omega)
    generalize hx : (c % pr * (2 * at' + 5) + at') ^ 5 % pr = x at *
    have hx0 : 0 ≤ x := by rw [← hx]; exact Int.emod_nonneg _ (by omega)
    have hx1 : x < 2147483647 := by have := Int.emod_lt_of_pos ((c % pr * (2 * at' + 5) + at') ^ 5) hp0; omega
    have hz0 : 0 ≤ x % 65519 := Int.emod_nonneg _ (by decide)
    have hz1 : x % 65519 < 65519 := Int.emod_lt_of_pos _ (by decide)
    have m2 : opMulV (.d (.int x)) (.d (.int (x % 65519 + at' + 1))) = some (.d (.int (x * (x % 65519 + at' + 1)))) := opMul_i (mulOk_small (by omega) (by omega))
    generalize hy : (x * (x % 65519 + at' + 1) + c % 65521) % 2147483489 = y at *
    refine ⟨y / 32 % many, penL cells (at' + 1) 0, [.c 0, .d (.int many), .u, .d (.int at'), .d (.int c), .d (.int pr), .d (.int y)], ?_, Int.emod_nonneg _ (by omega), Int.emod_lt_of_pos _ hm, cells, at' + 1, 0, rfl, h63, by omega, by omega, by omega⟩
    have ix := opIx_t hpr
    by_cases h1 : at' < cells.length
    · simp [-opAbs_i, oa, cRestS, hp, h1, hn h1, opMod_i hm, opMod_i hp0, opMod_i, opDiv_s, m0, m1, m2, p1, hx, hy, ix, hp0, penL, gL0]
    · simp [-opAbs_i, oa, cRestS, hp, h1, opMod_i hm, opMod_i hp0, opMod_i, opDiv_s, m0, m1, m2, p1, hx, hy, ix, hp0, penL, gL0]
theorem drawS : IsDraw fDrawS IsPenL := by
  intro B p r many hp hB hm hm2
  obtain ⟨cells, at', left, rfl, h63, ha0, haB, hl⟩ := hp.ex
  unfold fDrawS
  rw [runF_s]
  by_cases h : 0 < left
  · refine ⟨left % many, penL cells at' (left / many), ?_, Int.emod_nonneg _ (by omega), Int.emod_lt_of_pos _ hm, cells, at', left / many, rfl, h63, ha0, by omega, Int.ediv_nonneg hl (by omega)⟩
    simp [cDrawS, h, opMod_i hm, opDiv_i hm hm2, penL, gL2, pL2]
  · have hl0 : left = 0 := by omega
    subst hl0
    have m1 : opMulV (.d (.int 13)) (.d (.int at')) = some (.d (.int (13 * at'))) := opMul_i (mulOk_small (by omega) (by omega))
    by_cases hc : 0 < cells.length
    · have hc' : (0 : Int) < cells.length := by omega
      have hi0 : 0 ≤ at' % cells.length := Int.emod_nonneg _ (by omega)
      have hi1 : at' % cells.length < cells.length := Int.emod_lt_of_pos _ hc'
      obtain ⟨c, hcx⟩ : ∃ c, cells[(at' % (cells.length : Int)).toNat]? = some c := ⟨_, List.getElem?_eq_getElem (by omega)⟩
      have ix := opIx_l (ds := cells.map PyData.int) (i := at' % cells.length) (x := .int c) (atI_nat hi0 (by rw [List.getElem?_map, hcx]; rfl))
      obtain ⟨v, p', v', e, h1, h2, h3⟩ := restS (c := c) (r := r) h63 ha0 haB hB hm hm2
      refine ⟨v, p', ?_, h1, h2, h3⟩
      simp only [penL] at e
      simp [cDrawS, h, m1, hc, hc', opMod_i hc', ix, e, penL, gL0, gL1, gL2, pL1]
    · obtain ⟨v, p', v', e, h1, h2, h3⟩ := restS (c := 13 * at' + 7) (r := r) h63 ha0 haB hB hm hm2
      refine ⟨v, p', ?_, h1, h2, h3⟩
      simp only [penL] at e
      simp [cDrawS, h, m1, hc, e, penL, gL0, gL1, gL2, pL1]
theorem dS {B : Nat} {p : Cell} (r : List Cell) (many : Int) (hp : IsPenL B p) (hB : B < 1000000 := by omega) (hm : 0 < many := by omega) (h2 : many < 18446744073709551616 := by omega) : ∃ v p', fDrawS [.c 0, .d (.int many)] (p :: r) = .ok (.d (.int v)) (p' :: r) ∧ 0 ≤ v ∧ v < many ∧ IsPenL (B + 1) p' := by
  obtain ⟨v, p', h⟩ := drawS B p r many hp hB hm (log2_many hm (by omega))
  exact ⟨v, p', h⟩
end Vm
namespace Vm
open PySem L2 PySem.Spec PyProof.Rows
/-! ### a def under another global name -/
structure DefA (K : Fg) (mg : Str → Option Value) (x z : Str) (st : Stmt) (ps : List Str) : Prop where
  ex : ∃ f fd, Fun K z z st f fd ∧ mg x = some (.ref f) ∧ ∀ us : List Value, us.length = ps.length → bindArgs fd ⟨us, []⟩ = pure (ps.zip us)
section
variable {P : Program} {wo : World} {K : Fg} {mg : Str → Option Value} {base : Heap} {ec : EC} {x z : Str} {st : Stmt} {ps : List Str} {k : Nat} {f : Fn}
theorem DefA.cal (D : DefA K mg x z st ps) (h : ∀ {fa : Addr} {fd : FuncData}, Fun K z z st fa fd → FnG P wo K mg base k fa fd ps (spF K ec ps.length f)) : Cal P wo K mg base ec x ps f k := by
  obtain ⟨fa, fd, F, hm, hb⟩ := D.ex
  obtain ⟨oc, od, kV, doc, pm, an, cdv, ct, osl, e, lk, _⟩ := F.ex
  exact ⟨fa, fd, oc, od, osl, lk, h F, hm, F.kp, .all hb⟩
end
end Vm
namespace Vm
open PySem L2
/-! ### the order of loads: plain laws -/
theorem Maj.trans {xs ys zs : List Int} (h : Maj xs ys) (g : Maj ys zs) (hl : xs.length = ys.length) : Maj xs zs := fun k hk => Int.le_trans (h k hk) (g k (by omega))
/-! ### a move makes no fuller -/
/-! ### lists of moves, walked -/
theorem Leads.append : ∀ {qs rs : List (Nat × Nat)} {ys zs xs : List Int}, Leads qs ys zs → Leads rs zs xs → Leads (qs ++ rs) ys xs
  | [], rs, ys, zs, xs, h, g => by
    have h : ys = zs := h
    subst h
    exact g
  | q :: qs, rs, ys, zs, xs, ⟨h1, h2, h3, h4⟩, g => ⟨h1, h2, h3, h4.append g⟩
/-! ### all in one box, and all even -/
end Vm
namespace Vm
open PySem L2 PySem.Spec PyProof.Rows
/-! ### a def handed to a def that calls it -/
/-- the start in which a slot f holds the def at a -/
abbrev EC.fn (ec : EC) (a : Addr) : EC := { ec with lf := a }
theorem Mem.fn {ec : EC} {K : Fg} {w : Wd} {m : List Cell} (h : Mem ec K w m) (a : Addr) : Mem (ec.fn a) K w m :=
  ⟨h.ext, h.len, h.nd, h.cell, h.fo, h.tab, h.inv, h.gt, h.nv⟩
theorem Mem.unfn {ec : EC} {a : Addr} {K : Fg} {w : Wd} {m : List Cell} (h : Mem (ec.fn a) K w m) : Mem ec K w m :=
  ⟨h.ext, h.len, h.nd, h.cell, h.fo, h.tab, h.inv, h.gt, h.nv⟩
theorem ExcF.fn {K : Fg} {mg : Str → Option Value} {ec : EC} {x : Str} {n : String} (h : ExcF K mg ec x n) (a : Addr) : ExcF K mg (ec.fn a) x n := ⟨h.g, h.x, h.k, h.b, h.t⟩
theorem IsF.fn {K : Fg} {mg : Str → Option Value} {ec : EC} {x : Str} {n : String} (h : IsF K mg ec x n) (a : Addr) : IsF K mg (ec.fn a) x n := ⟨h.ex⟩
theorem CatF.fn {K : Fg} {mg : Str → Option Value} {ec : EC} {x : Str} {L : List String} (h : CatF K mg ec x L) (a : Addr) : CatF K mg (ec.fn a) x L := ⟨h.ex⟩
theorem FOk.fn {K : Fg} {ec : EC} {a : Addr} {Q : VK} {E : XK} {w : Wd} {rf : RF} (h : FOk K ec Q E w rf) : FOk K (ec.fn a) Q E w rf := by
  cases rf with
  | bad => exact h
  | ex n m' => exact fun w2 le2 m2 => h w2 le2 m2.unfn
  | ok x m' => exact fun y w2 le2 m2 o fr => h y w2 le2 m2.unfn o fr
theorem FOk.unfn {K : Fg} {ec : EC} {a : Addr} {Q : VK} {E : XK} {w : Wd} {rf : RF} (h : FOk K (ec.fn a) Q E w rf) : FOk K ec Q E w rf := by
  cases rf with
  | bad => exact h
  | ex n m' => exact fun w2 le2 m2 => h w2 le2 (m2.fn a)
  | ok x m' => exact fun y w2 le2 m2 o fr => h y w2 le2 (m2.fn a) o fr
end Vm
namespace Vm
open PySem L2 PySem.Spec PyProof.Rows
/-! ### rules beside one another; whole numbers drawn (D), some moved behind, their rule -/
/-- rules told by rationals -/
structure Rt (K n : Nat) (ds : List D) (xs : List Rat) : Prop where
  len : ds.length = n
  xlen : xs.length = n
  tell : ∀ (i : Nat) (d : D) (x : Rat), ds[i]? = some d → xs[i]? = some x → Tell K d x
theorem isum_le {ws : List Int} {b : Int} (h : ∀ w, w ∈ ws → w ≤ b) : ws.sum ≤ ws.length * b := by
  induction ws with
  | nil => simp
  | cons w ws ih =>
    have h1 := h w (List.mem_cons_self ..)
    have h2 := ih fun x hx => h x (List.mem_cons_of_mem _ hx)
    rw [List.sum_cons, List.length_cons, Int.natCast_add, Int.add_mul]
    omega
end Vm
namespace Vm
open PySem L2 PySem.Spec PyProof.Rows
/-! ### mixtures by first sums; the shares of whole numbers -/
theorem Rt.mono {j k n : Nat} {ds : List D} {xs : List Rat} (h : Rt j n ds xs) (q : j ≤ k) : Rt k n ds xs := ⟨h.len, h.xlen, fun i d x a b => (h.tell i d x a b).mono q⟩
end Vm
namespace Vm
open PySem L2 PySem.Spec PyProof.Rows
/-! ### mixtures of rules of unlike many bits -/
theorem IsRl.rt {k n : Nat} {ds : List D} (h : IsRl k n ds) : Rt k n ds (ds.map ratD) := ⟨h.1, by rw [List.length_map]; exact h.1, fun i d x hd hx => by
  rw [List.getElem?_map, hd] at hx
  cases hx
  exact (h.tell (List.mem_of_getElem? hd)).1⟩
theorem IsRl.ge {k n : Nat} {ds : List D} (h : IsRl k n ds) : ∀ x, x ∈ ds.map ratD → 0 ≤ x := fun x hx => by
  obtain ⟨d, hd, rfl⟩ := List.mem_map.mp hx
  exact (h.tell hd).2
end Vm
namespace Vm
open PySem L2 PySem.Spec PyProof.Rows
/-! ### tuples and lists whose elements are data or cells: the object never changes, its cells may -/
theorem els_mono {K : Fg} {G G' : Hp} {r r' : List Addr} {vs : List V} {es : List El} (g : Same G G') (hr : ∀ (k : Nat) (p : Addr), r[k]? = some p → r'[k]? = some p) (h : Paired (ElOk K G r) vs es) : Paired (ElOk K G' r') vs es := Paired.mapP h fun _ _ q => elOk_mono g hr q
theorem els_app {K : Fg} {G : Hp} {r : List Addr} : ∀ {vs ws : List V} {es fs : List El}, Paired (ElOk K G r) vs es → Paired (ElOk K G r) ws fs → Paired (ElOk K G r) (vs ++ ws) (es ++ fs)
  | _, _, _, _, .nil, h => h
  | _, _, _, _, .cons r t, h => .cons r (els_app t h)
theorem els_get {K : Fg} {G : Hp} {r : List Addr} : ∀ {vs : List V} {es : List El} {i : Nat} {e : El}, Paired (ElOk K G r) vs es → es[i]? = some e → ∃ v, vs[i]? = some v ∧ ElOk K G r v e
  | _, _, _, _, .nil, h => by simp at h
  | _, _, 0, _, .cons q t, h => by
    simp at h
    subst h
    exact ⟨_, rfl, q⟩
  | _, _, i + 1, e, .cons q t, h => by
    obtain ⟨v, h1, h2⟩ := els_get (i := i) (e := e) t (by simpa using h)
    exact ⟨v, by simpa using h1, h2⟩
section
variable {ec : EC} {W : WX}
theorem run_c {K : Fg} {σ : L2.St} {w : Wd} {s : S} {α : Type} {c : CE} {k : Rv → S → R α} {P : α → S → Prop} {Q : VK} (hr : Rel ec K w σ s) (h : Res P (okE K ec W σ w) ((c s).bind k))
    (hk : ∀ x w1 s1 a, Le w w1 → Rel ec K w1 σ s1 → RvOk K w1 x a → FrR w x a → Res P (okE K ec W σ w) (k a s1) → Q x w1.H) : rd K ec W c σ w.H Q := by
  refine ⟨w, s, rfl, hr, ?_⟩
  cases e : c s with
  | bad => rw [e] at h; exact h
  | ex n s' => rw [e] at h; exact h
  | ok rv s' =>
    rw [e] at h
    exact fun x w' le r' o f => hk x w' s' rv le r' o f h
/-- an object just made joins the ground, its address with it -/
theorem gr_out {K : Fg} {w : Wd} {σ : L2.St} {s : S} {p : Addr} {b : Bool} {vs : List V} {es : List El} (r : Rel ec K w σ s) (hp : w.H p = none) (h : Paired (ElOk K w.G w.r) vs es) :
    ∃ w2, Gr w w2 ∧ w2.H = upd w.H p (outB b vs) ∧ VtOk K w2.G w2.r (.ref p) b es := by
  have hg : w.G p = none := r.mem.ext.free hp
  refine ⟨⟨upd w.G p (outB b vs), w.r, w.F, upd w.H p (outB b vs)⟩, ⟨rfl, rfl, same_upd hg, same_upd hp, fun e => same_upd2 e, fun q o e _ n => ?_, fun h => noTG_upd h (by cases b; exact noTb_l; exact noTb_tup)⟩, rfl, p, vs, rfl, upd_same, els_mono (same_upd hg) (fun _ _ q => q) h⟩
  show upd w.G p (outB b vs) q = none
  rw [upd_ne (ne_of_none e hp)]
  exact n
end
/-! ### argument lists whose lists stay cells -/
abbrev CAN := S → R (List El)
def nNil : CAN := fun s => .ok [] s
def nCons (c : CE) (ca : CAN) : CAN := fun s => (c s).bind fun a s1 => match a with
  | .d x => (ca s1).bind fun r s2 => .ok (.d x :: r) s2
  | .ref n => (ca s1).bind fun r s2 => .ok (.c n :: r) s2
  | .new (.l ds) => (ca ⟨s1.v, s1.m ++ [.l ds]⟩).bind fun r s2 => .ok (.c s1.m.length :: r) s2
  | _ => .bad
def rdN (K : Fg) (ec : EC) (W : WX) (c : CAN) : TA := fun σ H Q => ∃ w s, w.H = H ∧ Rel ec K w σ s ∧ Res (fun es s' => ∀ vs w', Le w w' → Rel ec K w' σ s' → Paired (ElOk K w'.G w'.r) vs es → Q vs w'.H) (okE K ec W σ w) (c s)
def NLen (n : Nat) (ca : CAN) : Prop := ∀ s es s', ca s = .ok es s' → es.length = n
theorem nl_nil : NLen 0 nNil := fun s es s' e => by
  cases e
  rfl
theorem nl_cons {n : Nat} {c : CE} {ca : CAN} (h : NLen n ca) : NLen (n + 1) (nCons c ca) := fun s es s' e => by
  have go : ∀ {s1 : S} {el : El}, ((ca s1).bind fun r s2 => R.ok (el :: r) s2) = .ok es s' → es.length = n + 1 := fun {s1 el} e => by
    cases e2 : ca s1 with
    | bad => rw [e2] at e; cases e
    | ex _ _ => rw [e2] at e; cases e
    | ok xs s2 =>
      rw [e2] at e
      cases e
      show xs.length + 1 = n + 1
      rw [h _ _ _ e2]
  unfold nCons at e
  cases e1 : c s with
  | bad => rw [e1] at e; cases e
  | ex _ _ => rw [e1] at e; cases e
  | ok a s1 =>
    rw [e1] at e
    cases a with
    | d x => exact go e
    | ref k => exact go e
    | t _ _ => cases e
    | new c =>
      cases c with
      | l ds => exact go e
      | _ => cases e
section
variable {X : Cx} {ec : EC} {W : WX}
theorem n_nil : PA X [] (rdN X.K ec W nNil) := PA.imp pa_nil fun σ H Q h => by
  obtain ⟨w, s, rfl, hr, h⟩ := h
  exact h [] w (Le.refl w) hr .nil
theorem n_cons {e : Expr} {es : List Expr} {c : CE} {ca : CAN} (h1 : Ex X ec W e c) (h2 : PA X es (rdN X.K ec W ca)) (hs : starEach (e :: es) X.env = (false, eval e X.env) :: starEach es X.env := by rfl) : PA X (e :: es) (rdN X.K ec W (nCons c ca)) :=
  PA.imp (pa_cons h1 h2 hs) fun σ H Q h => by
    obtain ⟨w, s, rfl, hr, h⟩ := h
    show rd X.K ec W c σ w.H _
    refine run_c hr h fun x w1 s1 a le1 hr1 ha fr h1 => ?_
    cases a with
    | t _ _ => exact h1.elim
    | d y =>
      refine ⟨w1, s1, rfl, hr1, ?_⟩
      refine Res.mono h1.bind (fun es s2 h2 vs w2 le2 hr2 rp => ?_) fun _ _ q => okE_le le1 q
      exact h2 (x :: vs) w2 (le1.trans le2) hr2 (.cons (Rp.mono le2.g _ _ ha) rp)
    | ref n =>
      obtain ⟨p, ep, hp⟩ := ha
      refine ⟨w1, s1, rfl, hr1, ?_⟩
      refine Res.mono h1.bind (fun es s2 h2 vs w2 le2 hr2 rp => ?_) fun _ _ q => okE_le le1 q
      exact h2 (x :: vs) w2 (le1.trans le2) hr2 (.cons ⟨p, ep, le2.cell hp⟩ rp)
    | new c =>
      cases c with
      | l ds =>
        obtain ⟨p, rfl, hp, hc⟩ := ha
        obtain ⟨r2, l2⟩ := cell_in (w := w) (c := .l ds) (by intro z; cases z) (by intro _ _ _ z; cases z) hr.mem.inv le1 hr1 hp (fr _ rfl p rfl) hc
        refine ⟨⟨w1.G, w1.r ++ [p], w1.F, w1.H⟩, ⟨s1.v, s1.m ++ [.l ds]⟩, rfl, r2, ?_⟩
        have h1 : Res _ (okE X.K ec W σ w) ((ca ⟨s1.v, s1.m ++ [.l ds]⟩).bind fun r s2 => R.ok (.c s1.m.length :: r) s2) := h1
        refine Res.mono h1.bind (fun es s2 h2 vs w2 le2 hr2 rp => ?_) fun _ _ q => okE_le l2 q
        refine h2 (.ref p :: vs) w2 (l2.trans le2) hr2 (.cons ⟨p, rfl, le2.cell ?_⟩ rp)
        show (w1.r ++ [p])[s1.m.length]? = some p
        rw [← hr1.mem.len, List.getElem?_append_right (Nat.le_refl _), Nat.sub_self]
        rfl
      | _ => exact h1.elim
def cTupN (ca : CAN) : CE := fun s => (ca s).bind fun es s1 => .ok (.t true es) s1
theorem e_tupN {n : Nat} {es : List Expr} {ca : CAN} {x1} {pos : Pos} (h : PA X es (rdN X.K ec W ca)) (hl : NLen n ca) (hn : n ≤ 1000 := by decide) : Ex X ec W (.Tuple es x1 pos) (cTupN ca) := (pe_tup h).imp fun σ H Q h => by
  obtain ⟨w, s, rfl, hr, h⟩ := h
  refine ⟨w, s, rfl, hr, ?_⟩
  unfold cTupN at h
  cases e : ca s with
  | bad => rw [e] at h; exact h
  | ex n s' => rw [e] at h; exact h
  | ok es s' =>
    rw [e] at h
    intro vs w' le r' rp
    have hz : vs.length ≤ sizeLine := by
      rw [Paired.length rp, hl _ _ _ e]
      exact sz1000 hn
    refine ⟨hz, fun p hp => ?_⟩
    obtain ⟨w2, g2, eH, vt⟩ := gr_out (b := true) r' hp rp
    have := h (.ref p) w2 (le.trans g2.le) (r'.grow g2) vt .t
    rw [eH] at this
    exact this
/-! ### items of them -/
def elV (es : List El) (k : Int) (s : S) : R Rv := match L2.ixN es.length k with
  | some j => match es[j]? with
    | some (.d x) => .ok (.d x) s
    | some (.c n) => .ok (.ref n) s
    | some (.p us) => .ok (.t true (us.map E0.el)) s
    | none => .bad
  | none => .bad
def kIxT (o : Rv) (i : Rv) (s2 : S) : R Rv := match o, i with
  | .t _ es, .d (.int k) => elV es k s2
  | o, i => opt (o.od s2.m) fun o => opt (i.od s2.m) fun o' => opt (opIx o o') fun rv => .ok rv s2
def cIxT (co ci : CE) : CE := fun s => (cv co s).bind fun o s1 => (cv ci s1).bind fun i s2 => kIxT o i s2
theorem e_ixT {a b : Expr} {ca cb : CE} {pos : Pos} (ha : Ex X ec W a ca) (hb : Ex X ec W b cb) (hp : PlainIx b := by exact fun _ _ => rfl) : Ex X ec W (.Subscript a b pos) (cIxT ca cb) :=
  (pe_ix ixr_V ha hb hp).imp fun σ H Q h => by
    obtain ⟨w, s, rfl, hr, h⟩ := h
    refine run_cv hr h fun x w1 s1 o le1 r1 ho hn h1 => ?_
    refine run_cv r1 (Res.mono h1 (fun _ _ q => q) fun _ _ q => okE_le le1 q) fun y w2 s2 i le2 r2 hi hn2 h2 => ?_
    have ho2 := ho.le hn le2
    have other : Res (okV ec X.K w σ Q) (okE X.K ec W σ w1) (opt (o.od s2.m) fun o => opt (i.od s2.m) fun o' => opt (opIx o o') fun rv => .ok rv s2) → rIxV X.K x y w2.H Q := fun h2 => by
      obtain ⟨o1, e1, h2⟩ := h2.opt
      obtain ⟨o2, e2, h2⟩ := h2.opt
      obtain ⟨rv, e3, h3⟩ := h2.opt
      exact s_ix w2 x y o1 o2 rv Q r2.mem.ext (od_of r2 ho2 e1) (od_of r2 hi e2) e3 (post_of r2 fun z w' le r' o f => h3 z w' ((le1.trans le2).trans le) r' o (f.back (le1.trans le2) le o))
    unfold kIxT at h2
    split at h2
    · rename_i b es k
      obtain ⟨a, vs, rfl, hG, ps⟩ := (show VtOk X.K w2.G w2.r x b es from ho2)
      have hi : Rp X.K w2.G y (.int k) := hi
      cases hi
      unfold elV at h2
      split at h2
      · rename_i j ej
        have lv : vs.length = es.length := Paired.length ps
        have done : ∀ (e : El), es[j]? = some e → ∃ v, atI vs k = some v ∧ ElOk X.K w2.G w2.r v e := fun e he => by
          obtain ⟨v, h3, h4⟩ := els_get ps he
          refine ⟨v, ?_, h4⟩
          unfold atI
          rw [lv, ej]
          exact h3
        have fin' : ∀ {v : V}, atI vs k = some v → Q v w2.H → rIxV X.K (.ref a) (.int k) w2.H Q := fun {v} e q => by
          cases b with
          | true => exact .inr (.inl ⟨a, vs, k, v, rfl, rfl, SqT.of (r2.mem.ext _ _ hG), e, q⟩)
          | false => exact .inl ⟨a, vs, k, v, rfl, rfl, SqL.of (r2.mem.ext _ _ hG), e, q⟩
        split at h2
        · rename_i d ed
          obtain ⟨v, h3, h4⟩ := done _ ed
          exact fin' h3 (h2 v w2 (le1.trans le2) r2 h4 .d)
        · rename_i n en
          obtain ⟨v, h3, h4⟩ := done _ en
          exact fin' h3 (h2 v w2 (le1.trans le2) r2 h4 .ref)
        · rename_i us en
          obtain ⟨v, h3, a2, vs2, e1, e2, e3⟩ := done _ en
          exact fin' h3 (h2 v w2 (le1.trans le2) r2 ⟨a2, vs2, e1, e2, paired_el e3⟩ .t)
        · exact h2.elim
      · exact h2.elim
    · exact other h2
/-! ### read as data -/
def elsD (m : List Cell) : List El → Option (List D)
  | [] => some []
  | .d x :: r => match elsD m r with
    | some ds => some (x :: ds)
    | none => none
  | .c k :: r => match m[k]? with
    | some (.l ls) => match elsD m r with
      | some ds => some (.list ls :: ds)
      | none => none
    | _ => none
  | .p _ :: _ => none
def outD : Bool → List D → D
  | true, ds => .tuple ds
  | false, ds => .list ds
/-- repr of such a thing, or of data -/
def kReprT (o : Rv) (s : S) : R Rv := match o with
  | .t b es => opt (elsD s.m es) fun ds => if okrX (outD b ds) = true then .ok (.d (.str (shX (outD b ds)).shown)) s else .bad
  | o => opt (o.od s.m) fun o => opt (opReprX o) fun rv => .ok rv s
def cReprT (c : CE) : CE := fun s => (cv c s).bind kReprT
/-! ### read for the last time, it becomes data -/
end
/-! ### comprehensions whose turns make lists: a table -/
end Vm
namespace Vm
open PySem L2
/-! ### steps of things whose elements are data or cells, for simp -/
def kIx1 (ci : CE) (o : Rv) (s1 : S) : R Rv := (cv ci s1).bind (kIxT o)
@[simp] theorem kIx1_s {ci : CE} {o : Rv} {s1 : S} : kIx1 ci o s1 = (cv ci s1).bind (kIxT o) := Eq.trans rfl rfl
@[simp] theorem cIxT_s {co ci : CE} {s : S} : cIxT co ci s = (cv co s).bind (kIx1 ci) := Eq.trans rfl rfl
@[simp] theorem kIxT_t {b : Bool} {es : List El} {k : Int} {s : S} : kIxT (.t b es) (.d (.int k)) s = elV es k s := Eq.trans rfl rfl
@[simp] theorem nNil_s {s : S} : nNil s = .ok [] s := Eq.trans rfl rfl
def kNc (e : El) (r : List El) (s2 : S) : R (List El) := .ok (e :: r) s2
@[simp] theorem kNc_s {e : El} {r : List El} {s2 : S} : kNc e r s2 = .ok (e :: r) s2 := Eq.trans rfl rfl
def nconsR (ca : CAN) : Rv → S → R (List El)
  | .d x, s1 => (ca s1).bind (kNc (.d x))
  | .ref n, s1 => (ca s1).bind (kNc (.c n))
  | .new (.l ds), s1 => (ca ⟨s1.v, s1.m ++ [.l ds]⟩).bind (kNc (.c s1.m.length))
  | _, _ => .bad
@[simp] theorem nconsR_d {ca : CAN} {x : D} {s1 : S} : nconsR ca (.d x) s1 = (ca s1).bind (kNc (.d x)) := Eq.trans rfl rfl
@[simp] theorem nconsR_r {ca : CAN} {n : Nat} {s1 : S} : nconsR ca (.ref n) s1 = (ca s1).bind (kNc (.c n)) := Eq.trans rfl rfl
@[simp] theorem nconsR_l {ca : CAN} {ds : List D} {s1 : S} : nconsR ca (.new (.l ds)) s1 = (ca ⟨s1.v, s1.m ++ [.l ds]⟩).bind (kNc (.c s1.m.length)) := Eq.trans rfl rfl
@[simp] theorem nCons_s {c : CE} {ca : CAN} {s : S} : nCons c ca s = (c s).bind (nconsR ca) := by
  unfold nCons
  congr 1
  funext a s1
  cases a with
  | d x => rfl
  | ref n => rfl
  | t _ _ => rfl
  | new c => cases c <;> rfl
def kTn (es : List El) (s1 : S) : R Rv := .ok (.t true es) s1
@[simp] theorem kTn_s {es : List El} {s1 : S} : kTn es s1 = .ok (.t true es) s1 := Eq.trans rfl rfl
@[simp] theorem cTupN_s {ca : CAN} {s : S} : cTupN ca s = (ca s).bind kTn := Eq.trans rfl rfl
@[simp] theorem cReprT_s {c : CE} {s : S} : cReprT c s = (cv c s).bind kReprT := Eq.trans rfl rfl
end Vm
namespace Vm
open PySem L2 PySem.Spec PyProof.Rows
/-! ### pairings: two rules gone through from the fullest box on, in whole numbers -/
/-- a rule over the bottom M -/
structure IR (K : Nat) (M : Int) (n : Nat) (ds : List D) (us : List Int) : Prop where
  len : ds.length = n
  ulen : us.length = n
  ge : ∀ u, u ∈ us → 0 ≤ u
  sum : us.sum = M
  m1 : 1 ≤ M
  bM : Bs K M
  tell : ∀ (i : Nat) (d : D) (u : Int), ds[i]? = some d → us[i]? = some u → Tell K d ((u : Rat) / (M : Rat))
theorem IR.rt {K n : Nat} {M : Int} {ds : List D} {us : List Int} (h : IR K M n ds us) : Rt K n ds (us.map fun u : Int => (u : Rat) / (M : Rat)) := ⟨h.len, by rw [List.length_map]; exact h.ulen, fun i d x hd hx => by
  rw [List.getElem?_map] at hx
  obtain ⟨u, hu, rfl⟩ := Option.map_eq_some_iff.mp hx
  exact h.tell i d u hd hu⟩
def rs (n : Nat) (f : Nat → Int) : Int := ((List.range n).map f).sum
theorem rs_congr {n : Nat} {f g : Nat → Int} (h : ∀ a, a < n → f a = g a) : rs n f = rs n g := by
  unfold rs
  rw [List.map_congr_left fun a ha => h a (List.mem_range.mp ha)]
theorem rs_succ {n : Nat} {f : Nat → Int} : rs (n + 1) f = rs n f + f n := by
  unfold rs
  rw [List.range_succ, List.map_append, List.sum_append]
  simp
theorem rs_upd {f : Nat → Int} {j : Nat} {p : Int} : ∀ n : Nat, rs n (fun b => if b = j then f b + p else f b) = rs n f + if j < n then p else 0
  | 0 => by simp [rs]
  | n + 1 => by
    rw [rs_succ, rs_succ, rs_upd n]
    by_cases h : n = j
    · subst h
      simp
      omega
    · by_cases h2 : j < n
      · simp [h, h2, Nat.lt_succ_of_lt h2]
        omega
      · have h3 : ¬ j < n + 1 := by omega
        simp [h, h2, h3]
theorem rs_zero {n : Nat} {f : Nat → Int} (h : ∀ a, a < n → f a = 0) : rs n f = 0 := by
  induction n with
  | zero => rfl
  | succ n ih => rw [rs_succ, ih fun a ha => h a (by omega), h n (by omega)]; rfl
def bump (R : Nat → Nat → Int) (i j : Nat) (p : Int) : Nat → Nat → Int := fun a b => if a = i ∧ b = j then R a b + p else R a b
/-- the two rules in whole numbers, the one no fuller -/
structure Two (n : Nat) (us vs : List Int) : Prop where
  ul : us.length = n
  vl : vs.length = n
  u0 : ∀ u, u ∈ us → 0 ≤ u
  v0 : ∀ u, u ∈ vs → 0 ≤ u
  sum : us.sum = vs.sum
  dom : ∀ k, k ≤ n → (us.take k).sum ≤ (vs.take k).sum
structure PI (n : Nat) (us vs : List Int) (i j : Nat) (h t : Int) (R : Nat → Nat → Int) : Prop where
  il : i < n
  jl : j < n
  eq : (us.take (i + 1)).sum - h = (vs.take (j + 1)).sum - t
  h0 : 0 ≤ h
  h1 : h ≤ us.getD i 0
  t0 : 0 ≤ t
  t1 : t ≤ vs.getD j 0
  row : ∀ a, a < n → rs n (R a) = if a < i then us.getD a 0 else if a = i then us.getD i 0 - h else 0
  col : ∀ b, b < n → rs n (fun a => R a b) = if b < j then vs.getD b 0 else if b = j then vs.getD j 0 - t else 0
  ge : ∀ a b, 0 ≤ R a b
  sup : ∀ a b, b < n → a < b → R a b = 0
section
variable {n : Nat} {us vs : List Int} {i j : Nat} {h t : Int} {R : Nat → Nat → Int}
theorem getD_ge {xs : List Int} (h : ∀ x, x ∈ xs → 0 ≤ x) (i : Nat) : 0 ≤ xs.getD i 0 := by
  by_cases hi : i < xs.length
  · rw [getD_get hi]
    exact h _ (List.getElem_mem hi)
  · rw [List.getD_eq_getElem?_getD, List.getElem?_eq_none (by omega)]
    exact Int.le_refl _
theorem bump_row (hj : j < n) (a : Nat) {p : Int} : rs n (bump R i j p a) = rs n (R a) + if a = i then p else 0 := by
  by_cases ha : a = i
  · rw [if_pos ha]
    have := rs_upd (f := R a) (j := j) (p := p) n
    rw [if_pos hj] at this
    rw [← this]
    exact rs_congr fun b _ => by
      unfold bump
      simp [ha]
  · rw [if_neg ha, Int.add_zero]
    exact rs_congr fun b _ => by
      unfold bump
      simp [ha]
theorem bump_col (hi : i < n) (b : Nat) {p : Int} : rs n (fun a => bump R i j p a b) = rs n (fun a => R a b) + if b = j then p else 0 := by
  by_cases hb : b = j
  · rw [if_pos hb]
    have := rs_upd (f := fun a => R a b) (j := i) (p := p) n
    rw [if_pos hi] at this
    rw [← this]
    exact rs_congr fun a _ => by
      unfold bump
      simp [hb]
  · rw [if_neg hb, Int.add_zero]
    exact rs_congr fun a _ => by
      unfold bump
      simp [hb]
theorem PI.start (T : Two n us vs) (hn : 0 < n) : PI n us vs 0 0 (us.getD 0 0) (vs.getD 0 0) (fun _ _ => 0) := by
  have h4 := sum_takeD (xs := us) (i := 0) (by rw [T.ul]; omega)
  have h5 := sum_takeD (xs := vs) (i := 0) (by rw [T.vl]; omega)
  have h6 := getD_ge T.u0 0
  have h7 := getD_ge T.v0 0
  rw [List.take_zero, List.sum_nil] at h4 h5
  refine ⟨hn, hn, by omega, h6, Int.le_refl _, h7, Int.le_refl _, fun a ha => ?_, fun b hb => ?_, fun _ _ => Int.le_refl _, fun _ _ _ _ => rfl⟩
  · rw [rs_zero fun _ _ => rfl, if_neg (by omega)]
    split <;> omega
  · rw [rs_zero fun _ _ => rfl, if_neg (by omega)]
    split <;> omega
end
end Vm
namespace Vm
open PySem L2 PySem.Spec PyProof.Rows
/-! ### the pairing told: the walk -/
theorem IR.at {K n : Nat} {M : Int} {ds : List D} {us : List Int} (h : IR K M n ds us) {i : Nat} (hi : i < n) : ∃ d, opIx (.d (.tuple ds)) (.d (.int (i : Nat))) = some (.d d) ∧ ds[i]? = some d ∧ Tell K d ((us.getD i 0 : Int) / (M : Rat)) := by
  have hl := h.len
  have hu := h.ulen
  have g : ds[i]? = some (ds[i]'(by omega)) := List.getElem?_eq_getElem (by omega)
  refine ⟨ds[i]'(by omega), opIx_t (atI_nat (by omega) (by rw [Int.toNat_natCast]; exact g)), g, ?_⟩
  rw [getD_get (by omega)]
  exact h.tell i _ _ g (List.getElem?_eq_getElem (by omega))
theorem IR.le {K n : Nat} {M : Int} {ds : List D} {us : List Int} (h : IR K M n ds us) (i : Nat) : 0 ≤ us.getD i 0 ∧ us.getD i 0 ≤ M := by
  refine ⟨getD_ge h.ge i, ?_⟩
  by_cases hi : i < us.length
  · rw [getD_get hi, ← h.sum]
    exact mem_le_sum h.ge _ (List.getElem_mem hi)
  · rw [List.getD_eq_getElem?_getD, List.getElem?_eq_none (by omega)]
    have := h.m1
    show (0 : Int) ≤ M
    omega
/-- the rows of a table -/
abbrev rwT (n : Nat) (τ : Nat → Nat → D) (a : Nat) : List D := (List.range n).map (τ a)
end Vm
namespace Vm
open PySem L2 PySem.Spec PyProof.Rows
/-! ### the pairing told; what is a pairing -/
abbrev tbD (n : Nat) (τ : Nat → Nat → D) : D := .tuple ((List.range n).map fun a => .tuple (rwT n τ a))
theorem opNe_nilD {L : List D} (h : ∀ d, d ∈ L → d.plain = true ∧ d.depth ≤ 59) : opNe (.d (.list L)) (.d (.list [])) = some (.d (.bool (!L.isEmpty))) := by
  have k := (okd_seq h).1
  have k0 := (okd_seq (ds := []) fun d hd => nomatch hd).1
  unfold opNe eqB
  dsimp only
  rw [if_pos ⟨k, k0⟩]
  cases L <;> rfl
/-! ### any thing -/
def partB : D → Bool
  | .tuple [.int p, .int q] => decide (0 < q ∧ Int.gcd p q = 1 ∧ 0 ≤ p)
  | _ => false
def cell (d : D) (a b : Nat) : D := match d with
  | .tuple rows => match rows.getD a .none with
    | .tuple ps => ps.getD b .none
    | _ => .none
  | _ => .none
end Vm
namespace Vm
open PySem L2 PySem.Spec PyProof.Rows
/-! ### whether a thing pairs two rules -/
structure TabIs (K n : Nat) (d : D) (τ : Nat → Nat → D) : Prop where
  e : d = tbD n τ
  c : τ = cell d
  t : ∀ a b, a < n → b < n → Tell K (τ a b) (ratD (τ a b))
  sh : ∀ a b, a < n → b < n → partB (τ a b) = true
section
variable {K n : Nat} {d : D} {τ : Nat → Nat → D}
theorem TabIs.row (T : TabIs K n d τ) {i : Nat} (hi : i < n) : opIx (.d d) (.d (.int (i : Nat))) = some (.d (.tuple (rwT n τ i))) := by
  rw [T.e]
  exact opIx_t (atI_nat (by omega) (by rw [Int.toNat_natCast]; simp [hi]))
end
theorem Rt.at {K n : Nat} {ds : List D} {xs : List Rat} (h : Rt K n ds xs) {i : Nat} (hi : i < n) : ∃ d, opIx (.d (.tuple ds)) (.d (.int (i : Nat))) = some (.d d) ∧ ds[i]? = some d ∧ Tell K d (xs.getD i 0) := by
  have hl := h.len
  have hu := h.xlen
  have g : ds[i]? = some (ds[i]'(by omega)) := List.getElem?_eq_getElem (by omega)
  have gx : xs[i]? = some (xs[i]'(by omega)) := List.getElem?_eq_getElem (by omega)
  refine ⟨ds[i]'(by omega), opIx_t (atI_nat (by omega) (by rw [Int.toNat_natCast]; exact g)), g, ?_⟩
  rw [List.getD_eq_getElem?_getD, gx]
  exact h.tell i _ _ g gx
end Vm
namespace Vm
open PySem L2 PySem.Spec PyProof.Rows
/-! ### rules drawn, over whole bottoms -/
/-- a pair of rules over one bottom -/
structure PairQ (q : List D × List D) : Prop where
  ex : ∃ n N us vs, 1 ≤ n ∧ n ≤ 12 ∧ IR 40 N n q.1 us ∧ IR 40 N n q.2 vs
theorem PairQ.swap {q : List D × List D} (h : PairQ q) : PairQ (q.2, q.1) := by
  obtain ⟨n, N, us, vs, a, b, c, d⟩ := h.ex
  exact ⟨n, N, vs, us, a, b, d, c⟩
/-! ### the pairing told passes -/
end Vm
namespace Vm
open PySem L2 PySem.Spec PyProof.Rows
/-! ### rules drawn (C) by whole weights -/
theorem rs_tel {f : Nat → Int} : ∀ n : Nat, rs n (fun i => f (i + 1) - f i) = f n - f 0
  | 0 => by simp [rs]
  | n + 1 => by
    rw [rs_succ, rs_tel n]
    omega
end Vm
namespace Vm
open PySem L2 PySem.Spec PyProof.Rows
/-! ### a common bottom; loads and spreads drawn (C) -/
/-! ### loads drawn -/
/-- sorted cuts from nought to b -/
structure Cuts (n : Nat) (b : Int) (cs : List Int) : Prop where
  len : cs.length = n + 1
  pw : cs.Pairwise (· ≤ ·)
  e : cs.getD n 0 - cs.getD 0 0 = b
  bd : ∀ c, c ∈ cs → 0 ≤ c ∧ c ≤ b
theorem Cuts.ld {n : Nat} {b : Int} {cs : List Int} (h : Cuts n b cs) : Ld n b (sortD ((List.range n).map fun i => cs.getD (i + 1) 0 - cs.getD i 0)) := by
  refine ⟨by rw [sortD_len]; simp, fun x hx => ?_, ?_, sortD_pw _⟩
  · obtain ⟨i, hi, rfl⟩ := List.mem_map.mp (sortD_mem.mp hx)
    have hi := List.mem_range.mp hi
    have hl := h.len
    have := List.pairwise_iff_getElem.mp h.pw i (i + 1) (by omega) (by omega) (by omega)
    rw [getD_get (show i + 1 < cs.length by omega), getD_get (show i < cs.length by omega)]
    omega
  · rw [sortD_sum]
    exact (rs_tel (f := fun i => cs.getD i 0) n).trans h.e
end Vm
namespace Vm
open PySem L2 PySem.Spec PyProof.Rows
/-! ### spreads drawn (C) -/
/-- weights of at most so many loads -/
structure CnD (n : Nat) (b : Int) (i : Nat) (F : List (List Int × Int)) : Prop where
  nd : (keys F).Nodup
  ld : ∀ k, k ∈ keys F → Ld n b k
  w : ∀ k, k ∈ keys F → 1 ≤ wt F k ∧ wt F k ≤ 100
  len : F.length ≤ i
  ne : 1 ≤ i → keys F ≠ []
theorem wt_aput {F : List (List Int × Int)} {k t : List Int} {v : Int} : wt (aput F k v) t = if t = k then v else wt F t := by
  unfold wt
  rw [aget_aput]
  split <;> rfl
theorem CnD.put {n : Nat} {b : Int} {i : Nat} {F : List (List Int × Int)} {k : List Int} {v : Int} (h : CnD n b i F) (hk : Ld n b k) (v1 : 1 ≤ v) (v2 : v ≤ 100) : CnD n b (i + 1) (aput F k v) := by
  refine ⟨nodup_aput h.nd, fun t ht => ?_, fun t ht => ?_, ?_, fun _ z => ?_⟩
  · rcases mem_aput.mp ht with ht | rfl
    · exact h.ld t ht
    · exact hk
  · rw [wt_aput]
    split
    · exact ⟨v1, v2⟩
    · rcases mem_aput.mp ht with ht | ht
      · exact h.w t ht
      · contradiction
  · have := aput_len (F := F) (k := k) (v := v)
    have := h.len
    omega
  · have : k ∈ keys (aput F k v) := mem_aput.mpr (.inr rfl)
    rw [z] at this
    cases this
theorem CnD.sum {n : Nat} {b : Int} {i : Nat} {F : List (List Int × Int)} (h : CnD n b i F) (i1 : 1 ≤ i) : 1 ≤ sumW F ∧ sumW F ≤ 100 * (i : Int) := by
  rw [← sum_keys h.nd]
  have kl : (keys F).length = F.length := by unfold keys; rw [List.length_map]
  have hl := h.len
  constructor
  · obtain ⟨k, ks, e⟩ : ∃ k ks, keys F = k :: ks := by
      cases e : keys F with
      | nil => exact absurd e (h.ne i1)
      | cons a l => exact ⟨a, l, rfl⟩
    have h1 := h.w k (by rw [e]; exact List.mem_cons_self ..)
    have h2 := mem_le_sum (xs := (keys F).map (wt F)) (fun x hx => by
      obtain ⟨t, ht, rfl⟩ := List.mem_map.mp hx
      have := h.w t ht
      omega) (wt F k) (List.mem_map_of_mem (by rw [e]; exact List.mem_cons_self ..))
    omega
  · have := isum_le (ws := (keys F).map (wt F)) (b := 100) fun x hx => by
      obtain ⟨t, ht, rfl⟩ := List.mem_map.mp hx
      exact (h.w t ht).2
    rw [List.length_map, kl] at this
    omega
end Vm
namespace Vm
open PySem L2 PySem.Spec PyProof.Rows
/-! ### lists beside an empty one: their items are not looked at -/
def opNeE : Od → Od → Option Rv
  | .d (.list L), .d (.list []) => some (.d (.bool (!L.isEmpty)))
  | x, y => opNe x y
@[simp] theorem opNeE_nil {L : List D} : opNeE (.d (.list L)) (.d (.list [])) = some (.d (.bool (!L.isEmpty))) := rfl
/-! ### comprehensions over a thing whose elements are data or cells -/
def elSl : El → Sl
  | .d x => .d x
  | .c k => .c k
  | .p us => .t true (us.map E0.el)
theorem elSl_ok {ec : EC} {K : Fg} {w : Wd} {v : V} {e : El} (h : ElOk K w.G w.r v e) : SlOk ec K w (some (some v)) (elSl e) := by
  cases e with
  | d x => exact ⟨v, rfl, h⟩
  | c k =>
    obtain ⟨p, rfl, hp⟩ := h
    exact ⟨p, rfl, hp⟩
  | p us =>
    obtain ⟨a, vs, e1, e2, e3⟩ := h
    exact ⟨v, rfl, a, vs, e1, e2, paired_el e3⟩
abbrev CIE := S → R (List El)
def ItE (K : Fg) (w : Wd) (J : It) (es : List El) : Prop := ∀ w1, Le w w1 → Same w1.G w1.H → ∀ i, (∀ e, es[i]? = some e → J.go i w1.H ∧ ∀ x H', J.yld i w1.H x H' → ∃ w2, Gr w1 w2 ∧ w2.H = H' ∧ ElOk K w2.G w2.r x e) ∧ (es.length ≤ i → J.stop i w1.H)
def rdIE (K : Fg) (ec : EC) (W : WX) (c : CIE) : TI := fun σ H R => ∃ w s, w.H = H ∧ Rel ec K w σ s ∧ Res (fun es s' => ∀ J w', Le w w' → Rel ec K w' σ s' → ItE K w' J es → R J w'.H) (okE K ec W σ w) (c s)
def ciT (c : CE) : CIE := fun s => (cv c s).bind fun a s1 => match a with
  | .t _ es => .ok es s1
  | _ => .bad
section
variable {X : Cx} {ec : EC} {W : WX}
theorem i_T {tg l : Expr} {c : CE} (h : Ex X ec W l c) : L2.PI X tg l (rdIE X.K ec W (ciT c)) := PI.imp (pi_seq h) fun σ H R h => by
  obtain ⟨w, s, rfl, hr, h⟩ := h
  refine run_cv hr h fun x w1 s1 a le1 hr1 ha hn h1 => ?_
  cases a with
  | ref n => exact h1.elim
  | d _ => exact h1.elim
  | new c => exact h1.elim
  | t b es =>
    obtain ⟨a, vs, rfl, hG, ps⟩ := (show VtOk X.K w1.G w1.r x b es from ha)
    have lv : vs.length = es.length := Paired.length ps
    cases b with
    | false =>
      refine ⟨_, rfl, .inl ⟨_, hr1.mem.ext.seq (SqL.of hG), h1 _ w1 le1 hr1 fun w2 le2 e2 i => ⟨fun e he => ?_, fun hl => ⟨_, e2.seq (le2.g.seq (SqL.of hG)), by rw [lv]; exact hl⟩⟩⟩⟩
      obtain ⟨v, ev, rp⟩ := els_get ps he
      refine ⟨⟨_, v, e2.seq (le2.g.seq (SqL.of hG)), ev⟩, fun x H' hy => ⟨w2, Gr.refl w2, hy.1.symm, ?_⟩⟩
      have := hy.2 _ (e2.seq (le2.g.seq (SqL.of hG)))
      rw [ev] at this
      cases this
      exact elOk_mono le2.g (fun k p q => le2.cell q) rp
    | true =>
      refine ⟨_, rfl, .inr ⟨_, SqT.of (hr1.mem.ext _ _ hG), h1 _ w1 le1 hr1 fun w2 le2 e2 i => ⟨fun e he => ?_, fun hl => ⟨_, SqT.of (e2 _ _ (le2.g _ _ hG)), by rw [lv]; exact hl⟩⟩⟩⟩
      obtain ⟨v, ev, rp⟩ := els_get ps he
      refine ⟨⟨_, v, SqT.of (e2 _ _ (le2.g _ _ hG)), ev⟩, fun x H' hy => ⟨w2, Gr.refl w2, hy.1.symm, ?_⟩⟩
      have := hy.2 _ (SqT.of (e2 _ _ (le2.g _ _ hG)))
      rw [ev] at this
      cases this
      exact elOk_mono le2.g (fun k p q => le2.cell q) rp
end
end Vm
namespace Vm
open PySem L2 PySem.Spec PyProof.Rows
/-! ### dicts whose keys are tuples of tuples of whole numbers -/
@[simp] theorem odC_g {x : GX} : odC (some (.g x)) = some (.c (.g x)) := Eq.trans rfl rfl
mutual
def nkD? : D → Option NestedKey
  | .int i => some (.num i)
  | .tuple ds => match nkDs? ds with
    | some ks => some (.tup ks)
    | none => none
  | .none => none
  | .bool _ => none
  | .str _ => none
  | .list _ => none
  | .dict _ => none
def nkDs? : List D → Option (List NestedKey)
  | [] => some []
  | d :: ds => match nkD? d, nkDs? ds with
    | some k, some ks => some (k :: ks)
    | _, _ => none
end
def nkK? : D → Option NestedKey
  | .tuple ds => match nkDs? ds with
    | some ks => if (NestedKey.tup ks).depth ≤ 8 then some (.tup ks) else none
    | none => none
  | _ => none
/-- the key (xs, ys) -/
def pk (xs ys : List Int) : NestedKey := .tup [.tup (xs.map .num), .tup (ys.map .num)]
/-! ### what stands in the heap -/
section
variable {X : Cx} {pins : List (Addr × Obj)} {σ : L2.St} {H : Hp} {s : Shared}
def putN (kas : List (NestedKey × Addr × V)) (k : NestedKey) (b : Addr) (v : V) : List (NestedKey × Addr × V) :=
  if (kas.any fun x => decide (x.1 = k)) = true then kas.map (fun x => if x.1 = k then (x.1, x.2.1, v) else x) else kas ++ [(k, b, v)]
theorem putN_len {kas : List (NestedKey × Addr × V)} {k : NestedKey} {b : Addr} {v : V} : (putN kas k b v).length ≤ kas.length + 1 := by
  unfold putN
  split
  · rw [List.length_map]
    omega
  · rw [List.length_append]
    exact Nat.le_refl _
theorem putN_keys {kas : List (NestedKey × Addr × V)} {k : NestedKey} {b : Addr} {v : V} (h : (kas.map (·.1)).Nodup) : ((putN kas k b v).map (·.1)).Nodup := by
  unfold putN
  split
  · rw [List.map_map]
    have e : (kas.map ((fun x => x.1) ∘ fun x : NestedKey × Addr × V => if x.1 = k then (x.1, x.2.1, v) else x)) = kas.map (·.1) := List.map_congr_left fun x _ => by
      show (if x.1 = k then (x.1, x.2.1, v) else x).1 = x.1
      split <;> rfl
    rw [e]
    exact h
  · rename_i z
    rw [List.map_append, List.nodup_append]
    refine ⟨h, by simp, fun a ha c hc => ?_⟩
    cases List.mem_singleton.mp (show c ∈ [k] from hc)
    intro e
    subst e
    obtain ⟨x, hx, e⟩ := List.mem_map.mp ha
    exact z (List.any_eq_true.mpr ⟨x, hx, decide_eq_true e⟩)
theorem NkG.put {kas : List (NestedKey × Addr × V)} {a : Addr} {k : NestedKey} {b : Addr} {v : V} (g : NkG kas a) (hl : kas.length < sizeLine) : NkG (putN kas k b v) a :=
  ⟨by have := @putN_len kas k b v; omega, g.2.1, putN_keys g.2.2⟩
variable {A : Around} {E : Value → Shared → Prop} {a : Addr} {y v : V} {u r : Value} {o : Option V}
/-! ### the rules -/
end
end Vm
namespace Vm
open PySem L2 PySem.Spec PyProof.Rows
/-! ### the closures of dicts with nested keys -/
def cNewN : CE := fun s => .ok (.new (.g (.n []))) s
@[simp] theorem cNewN_s {s : S} : cNewN s = .ok (.new (.g (.n []))) s := Eq.trans rfl rfl
section
variable {X : Cx} {ec : EC} {W : WX}
/-! ### locked: data from then on -/
/-! ### reading -/
def getN (es : List (D × D)) (k : NestedKey) : Option D := (es.find? fun e => decide (nkD? e.1 = some k)).map (·.2)
def lookN : Od → Od → Option (Option D)
  | .c (.g (.n kvs)), .d x => match nkK? x with
    | some k => some (getD kvs k)
    | none => none
  | .d (.dict ((.list [.none], .none) :: es)), .d x => match nkK? x with
    | some k => some (getN es k)
    | none => none
  | _, _ => none
/-! ### for k in d -/
/-! ### d.get(k, x) -/
def dctN : Od → Bool
  | .c (.g (.n _)) => true
  | _ => false
def kGetN4 (o k d : Rv) (s3 : S) : R Rv := opt (o.od s3.m) fun oo => opt (k.od s3.m) fun kk => opt (lookN oo kk) fun r => match r, d with
  | some x, _ => .ok (.d x) s3
  | none, .d y => .ok (.d y) s3
  | _, _ => .bad
def kGetN2 (cd : CE) (o : Rv) (k : Rv) (s2 : S) : R Rv := (cv cd s2).bind (kGetN4 o k)
def kGetN1 (ck cd : CE) (o : Rv) (s1 : S) : R Rv := opt (o.od s1.m) fun o1 => if dctN o1 = true then (cv ck s1).bind (kGetN2 cd o) else .bad
def cGetN (co ck cd : CE) : CE := fun s => (cv co s).bind (kGetN1 ck cd)
/-! ### d[k] = v -/
theorem getD_any {κ : Type} [DecidableEq κ] {kvs : List (κ × D)} {k : κ} : (kvs.any fun x => decide (x.1 = k)) = (getD kvs k).isSome := by
  induction kvs with
  | nil => rfl
  | cons a as ih =>
    by_cases q : a.1 = k
    · rw [List.any_cons, decide_eq_true q]
      unfold getD
      rw [List.find?_cons_of_pos (by exact decide_eq_true q)]
      rfl
    · rw [List.any_cons, decide_eq_false q, Bool.false_or, ih]
      unfold getD
      rw [List.find?_cons_of_neg (by simpa using q)]
end
/-! ### their values -/
@[simp] theorem cGetN_s {co ck cd : CE} {s : S} : cGetN co ck cd s = (cv co s).bind (kGetN1 ck cd) := Eq.trans rfl rfl
@[simp] theorem kGetN2_s {cd : CE} {o k : Rv} {s2 : S} : kGetN2 cd o k s2 = (cv cd s2).bind (kGetN4 o k) := Eq.trans rfl rfl
@[simp] theorem kGetN1_c {ck cd : CE} {n : Nat} {kvs : List (NestedKey × D)} {s1 : S} (h : s1.m[n]? = some (.g (.n kvs))) : kGetN1 ck cd (.ref n) s1 = (cv ck s1).bind (kGetN2 cd (.ref n)) := by
  unfold kGetN1
  rw [od_ref, h, odC_g]
  rfl
end Vm
namespace Vm
open PySem L2 PySem.Spec PyProof.Rows
/-! ### joint spreads: lines of two loads and a share -/
theorem opEq_nilJ {ds : List D} (h : okd (.list ds) = true) : opEq (.d (.list ds)) (.d (.list [])) = some (.d (.bool ds.isEmpty)) := by
  unfold opEq eqB
  dsimp only
  rw [if_pos ⟨h, by decide⟩]
  cases ds with
  | nil => rfl
  | cons d ds => rfl
abbrev JL := List Int × List Int × Int × Int
def ratJ (r : JL) : Rat := (r.2.2.1 : Rat) / (r.2.2.2 : Int)
end Vm
namespace Vm
open PySem L2 PySem.Spec PyProof.Rows
/-! ### loads drawn ball by ball -/
/-! ### which is no fuller, by the law's own look -/
/-! ### pairs of loads in order -/
abbrev P2 := List Int × List Int
def ltP (x y : P2) : Prop := x.1 < y.1 ∨ (x.1 = y.1 ∧ x.2 < y.2)
def leP (x y : P2) : Prop := x.1 < y.1 ∨ (x.1 = y.1 ∧ x.2 ≤ y.2)
instance (x y : P2) : Decidable (ltP x y) := inferInstanceAs (Decidable (_ ∨ _))
instance (x y : P2) : Decidable (leP x y) := inferInstanceAs (Decidable (_ ∨ _))
def sortP (ks : List P2) : List P2 := ks.mergeSort fun x y => decide (leP x y)
theorem sortP_perm (ks : List P2) : (sortP ks).Perm ks := List.mergeSort_perm _ _
theorem sortP_mem {ks : List P2} {k : P2} : k ∈ sortP ks ↔ k ∈ ks := (sortP_perm ks).mem_iff
end Vm
namespace Vm
open PySem L2 PySem.Spec PyProof.Rows
/-! ### what is kept by keys of any kind -/
section
variable {κ β : Type} [DecidableEq κ]
def gget (F : List (κ × β)) (k : κ) : Option β := (F.find? fun e => decide (e.1 = k)).map (·.2)
def gkeys (F : List (κ × β)) : List κ := F.map (·.1)
end
/-! ### pairs of loads as keys -/
@[simp] theorem setMR_g {i : Nat} {kvs : List (NestedKey × D)} {s1 : S} : setMR i (.new (.g (.n kvs))) s1 = .nx ⟨s1.v.set i (.c s1.m.length), s1.m ++ [.g (.n kvs)]⟩ := Eq.trans rfl rfl
end Vm
namespace Vm
open PySem L2 PySem.Spec PyProof.Rows
section
variable {X : Cx} {ec : EC} {W : WX}
/-! ### try: .., except x: one statement -/
/-! ### a, b, c = x, y, z -/
def cPar3 (i j l : Nat) (a b c : CE) : CS := fun s => (cv a s).out fun x s1 => (cv b s1).out fun y s2 => (cv c s2).out fun z s3 => match slOf x, slOf y, slOf z with
  | some p, some q, some r => .nx ⟨((s3.v.set i p).set j q).set l r, s3.m⟩
  | _, _, _ => .bad
/-! ### simp lemmas -/
def parR3 (i j l : Nat) (x y z : Rv) (s3 : S) : Out := match slOf x, slOf y, slOf z with
  | some p, some q, some r => .nx ⟨((s3.v.set i p).set j q).set l r, s3.m⟩
  | _, _, _ => .bad
@[simp] theorem parR3_d {i j l : Nat} {x y z : D} {s : S} : parR3 i j l (.d x) (.d y) (.d z) s = .nx ⟨((s.v.set i (.d x)).set j (.d y)).set l (.d z), s.m⟩ := Eq.trans rfl rfl
def kPar3b (i j l : Nat) (c : CE) (x y : Rv) (s2 : S) : Out := (cv c s2).out (parR3 i j l x y)
@[simp] theorem kPar3b_s {i j l : Nat} {c : CE} {x y : Rv} {s : S} : kPar3b i j l c x y s = (cv c s).out (parR3 i j l x y) := Eq.trans rfl rfl
def kPar3 (i j l : Nat) (b c : CE) (x : Rv) (s1 : S) : Out := (cv b s1).out (kPar3b i j l c x)
@[simp] theorem kPar3_s {i j l : Nat} {b c : CE} {x : Rv} {s : S} : kPar3 i j l b c x s = (cv b s).out (kPar3b i j l c x) := Eq.trans rfl rfl
@[simp] theorem cPar3_s {i j l : Nat} {a b c : CE} {s : S} : cPar3 i j l a b c s = (cv a s).out (kPar3 i j l b c) := Eq.trans rfl rfl
end
end Vm
namespace Vm
open PySem L2
/-! ### the fifth draw: a feed for each number of the script -/
def feedE (g c s : Int) : Cell := .l [.int g, .int c, .int s]
structure IsFeed (B : Nat) (p : Cell) : Prop where
  ex : ∃ g c s, p = feedE g c s ∧ 0 ≤ g ∧ 0 ≤ c ∧ c < 2147483629 ∧ 0 ≤ s ∧ s ≤ B
theorem IsFeed.mono {B C : Nat} {p : Cell} (h : IsFeed B p) (hb : B ≤ C) : IsFeed C p := by
  obtain ⟨g, c, s, h1, h2, h3, h4, h5, h6⟩ := h.ex
  exact ⟨g, c, s, h1, h2, h3, h4, h5, by omega⟩
end Vm
namespace Vm
open PySem L2
/-! ### lowest terms, the fourth way -/
/-- a share of w over W -/
def gI (w W : Int) : Int := ((Nat.gcd w.natAbs W.natAbs : Nat) : Int)
def lw (w W : Int) : D := shD (w / gI w W) (W / gI w W)
theorem gI_pos {w W : Int} (h : 1 ≤ W) : 1 ≤ gI w W := by
  have : 0 < Nat.gcd w.natAbs W.natAbs := Nat.gcd_pos_of_pos_right _ (by omega)
  unfold gI
  omega
theorem gI_le {w W : Int} (h : 1 ≤ W) : gI w W ≤ W := by
  have : Nat.gcd w.natAbs W.natAbs ≤ W.natAbs := Nat.gcd_le_right _ (by omega)
  unfold gI
  omega
theorem divI {a w W : Int} {K : Nat} (h : 1 ≤ W) (hb : Bs K W) (hK : K ≤ 8900) : opDiv (.d (.int a)) (.d (.int (gI w W))) = some (.d (.int (a / gI w W))) := by
  have g1 := gI_pos (w := w) h
  have g2 := gI_le (w := w) h
  refine opDiv_i (by omega) ?_
  have : (gI w W).natAbs < 2 ^ K := Nat.lt_of_le_of_lt (by omega) hb
  exact Nat.lt_of_le_of_lt (Nat.le_of_lt_succ (by
    have := (Nat.log2_lt (by omega : (gI w W).natAbs ≠ 0)).mpr this
    omega)) (by omega : K < 9000)
theorem lw_tell {w W : Int} {K : Nat} (h0 : 0 ≤ w) (h : 1 ≤ W) (hw : Bs K w) (hb : Bs K W) (hK : K ≤ 8900) : Tell K (lw w W) ((w : Rat) / W) := by
  obtain ⟨p, q, e, s, r⟩ := lowest_ok h0 h hw hb hK
  have e1 := measure_ok (a := w.natAbs) (b := W.natAbs) (k := K) hb (by omega)
  rw [show ((w.natAbs : Nat) : Int) = w by omega, show ((W.natAbs : Nat) : Int) = W by omega] at e1
  have d1 := divI (a := w) (w := w) h hb hK
  have d2 := divI (a := W) (w := w) h hb hK
  have e2 : fLawLowest [.d (.int w), .d (.int W)] [] = .ok (.d (lw w W)) [] := by
    unfold fLawLowest
    rw [runF_s]
    show fin [] (cLawLowest _) = _
    have e1 : fMeasure [.d (.int w), .d (.int W)] [] = .ok (.d (.int (gI w W))) [] := e1
    unfold lw
    generalize gI w W = g at *
    simp [cLawLowest, e1, d1, d2]
    rfl
  rw [e2] at e
  injection e with e
  injection e with e
  rw [Nat.max_self] at s
  rw [e]
  refine ⟨p, q, rfl, s, ?_⟩
  have := rat_ne h
  have r' : (p : Rat) * (W : Int) = (w : Int) * (q : Int) := by
    rw [← Rat.intCast_mul, ← Rat.intCast_mul, r]
  grind
/-! ### a spread by whole weights -/
/-! ### one side of rows, as a spread -/
end Vm
namespace Vm
open PySem L2
/-! ### weights put together by pairs -/
section
variable {κ : Type} [DecidableEq κ]
def gwt (F : List (κ × Int)) (k : κ) : Int := (gget F k).getD 0
def gsum (F : List (κ × Int)) : Int := (F.map (·.2)).sum
/-- what the events E give to k -/
def gev (E : List (κ × Int)) (k : κ) : Int := (E.map fun e => if e.1 = k then e.2 else 0).sum
end
/-! ### a joint spread by rows -/
end Vm
namespace Vm
open PySem L2
/-! ### shares added up by loads -/
/-- the spread of the weights F over the bottom N -/
def spN (N : Int) (F : List (List Int × Int)) : List D := (sortL (keys F)).map fun k => rowD k (lw (wt F k) N)
end Vm
namespace Vm
open PySem L2
/-! ### two spreads of one kind -/
/-! ### the two parts of a joint spread -/
def selJ (z : Bool) (l : JL) : List Int := if z then l.2.1 else l.1
/-- a line's share over the bottom N -/
def aJ (N : Int) (l : JL) : Int := l.2.2.1 * (N / l.2.2.2)
def evJ (z : Bool) (N : Int) (L : List JL) : List (List Int × Int) := L.map fun l => (selJ z l, aJ N l)
/-- lines whose shares all have the bottom N -/
structure OverN (K : Nat) (N : Int) (L : List JL) : Prop where
  n1 : 1 ≤ N
  bN : Bs K N
  k1 : 1 ≤ K
  p : ∀ l, l ∈ L → 0 ≤ l.2.2.1
  q : ∀ l, l ∈ L → 1 ≤ l.2.2.2
  g : ∀ l, l ∈ L → Int.gcd l.2.2.1 l.2.2.2 = 1
  dv : ∀ l, l ∈ L → l.2.2.2 ∣ N
  bs : Bs K ((L.map (aJ N)).sum)
  ln : L.length ≤ 100000
theorem aJ_rat {N : Int} {l : JL} (q : 1 ≤ l.2.2.2) (d : l.2.2.2 ∣ N) (n1 : 1 ≤ N) : ((aJ N l : Int) : Rat) / N = ratJ l := by
  obtain ⟨c, hc⟩ := d
  have e : N / l.2.2.2 = c := by rw [hc, Int.mul_ediv_cancel_left _ (by omega)]
  have h1 := rat_ne n1
  have h2 := rat_ne q
  unfold aJ ratJ
  rw [e, Rat.intCast_mul]
  have hN : (N : Rat) = (l.2.2.2 : Rat) * c := by rw [hc, Rat.intCast_mul]
  rw [hN] at h1 ⊢
  have h3 : (c : Rat) ≠ 0 := fun z => h1 (by rw [z, Rat.mul_zero])
  grind
theorem aJ_pos {K : Nat} {N : Int} {L : List JL} (h : OverN K N L) {l : JL} (hl : l ∈ L) : 0 ≤ aJ N l := Int.mul_nonneg (h.p l hl) (Int.ediv_nonneg (by have := h.n1; omega) (by have := h.q l hl; omega))
theorem aJ_le {K : Nat} {N : Int} {L : List JL} (h : OverN K N L) {l : JL} (hl : l ∈ L) : Bs K (aJ N l) := by
  have h0 := aJ_pos h hl
  refine h.bs.le ?_
  have : aJ N l ≤ (L.map (aJ N)).sum := mem_le_sum (fun x hx => by
    obtain ⟨m, hm, rfl⟩ := List.mem_map.mp hx
    exact aJ_pos h hm) _ (List.mem_map_of_mem hl)
  omega
theorem OverN.tell {K : Nat} {N : Int} {L : List JL} (h : OverN K N L) {l : JL} (hl : l ∈ L) : Tell K (shD l.2.2.1 l.2.2.2) ((aJ N l : Rat) / N) := by
  have q := h.q l hl
  have t : Tell (max K (max l.2.2.1.natAbs l.2.2.2.natAbs)) (shD l.2.2.1 l.2.2.2) (ratJ l) := by
    refine ⟨_, _, rfl, ⟨q, h.g l hl, Nat.lt_of_lt_of_le Nat.lt_two_pow_self (Nat.pow_le_pow_right (by decide) (by omega)), Nat.lt_of_lt_of_le Nat.lt_two_pow_self (Nat.pow_le_pow_right (by decide) (by omega))⟩, ?_⟩
    have := rat_ne q
    unfold ratJ
    grind
  rw [← aJ_rat q (h.dv l hl) h.n1] at t
  exact tell_tight t h.n1 (aJ_le h hl) h.bN h.k1
end Vm
namespace PySem.W
open Lean Elab Tactic Meta PySem PySem.Calls PyProof.Rows PyProof.V PySem.Spec
end PySem.W
namespace Vm
open PySem L2
/-! ### weights by loads compared -/
theorem aget_nd : ∀ {F : List (List Int × Int)} {p : List Int × Int}, (keys F).Nodup → p ∈ F → aget F p.1 = some p.2
  | [], _, _, h => by cases h
  | a :: F, p, nd, h => by
    have nd : (a.1 :: keys F).Nodup := nd
    rw [List.nodup_cons] at nd
    rw [aget_cons]
    rcases List.mem_cons.mp h with rfl | h
    · rw [if_pos rfl]
    · have : a.1 ≠ p.1 := fun z => nd.1 (z ▸ List.mem_map_of_mem (f := (·.1)) h)
      rw [if_neg this]
      exact aget_nd nd.2 h
end Vm
namespace Vm
open PySem L2
/-! ### a joint spread by the law's own look: behind the rows' looks -/
abbrev RowP := List Int × Int × Int
end Vm
namespace Vm
open PySem L2
/-! ### weights as shares -/
/-- what lines give to k, as a share -/
def ratK (z : Bool) (L : List JL) (k : List Int) : Rat := (L.map fun l => if selJ z l = k then ratJ l else 0).sum
def ratP (A : List RowP) (k : List Int) : Rat := (A.map fun r => if r.1 = k then ((r.2.1 : Int) : Rat) / ((r.2.2 : Int) : Rat) else 0).sum
/-- one side of the lines is the spread A -/
structure SameR (z : Bool) (L : List JL) (A : List RowP) : Prop where
  ks : ∀ k, (∃ l, l ∈ L ∧ selJ z l = k) ↔ ∃ r, r ∈ A ∧ r.1 = k
  ws : ∀ k, ratK z L k = ratP A k
end Vm
namespace Vm
open PySem L2
/-! ### the law's look and the program's -/
def raP (r : RowP) : Rat := ((r.2.1 : Int) : Rat) / ((r.2.2 : Int) : Rat)
/-- a spread of n boxes and b balls, its rows rising -/
structure SpA (n : Nat) (b : Int) (A : List RowP) : Prop where
  ne : A ≠ []
  pw : (A.map (·.1)).Pairwise (· < ·)
  ld : ∀ r, r ∈ A → loadB (ldD r.1) = true
  ln : ∀ r, r ∈ A → r.1.length = n
  sm : ∀ r, r ∈ A → r.1.sum = b
  p : ∀ r, r ∈ A → 1 ≤ r.2.1
  q : ∀ r, r ∈ A → 1 ≤ r.2.2
  g : ∀ r, r ∈ A → Int.gcd r.2.1 r.2.2 = 1
  one : (A.map raP).sum = 1
theorem SpA.nd {n : Nat} {b : Int} {A : List RowP} (h : SpA n b A) : (A.map (·.1)).Nodup := h.pw.imp fun {a b} hlt e => absurd hlt (by rw [e]; exact List.lt_irrefl b)
theorem sum_ite {ks : List (List Int)} {t : List Int} {x : Rat} (nd : ks.Nodup) (h : t ∈ ks) : (ks.map fun k => if t = k then x else 0).sum = x := by
  induction ks with
  | nil => cases h
  | cons k ks ih =>
    rw [List.nodup_cons] at nd
    rw [List.map_cons, List.sum_cons]
    have zero : ∀ ks : List (List Int), t ∉ ks → (ks.map fun k => if t = k then x else 0).sum = 0 := fun ks => by
      induction ks with
      | nil => exact fun _ => rfl
      | cons k ks ih =>
        intro hn
        rw [List.map_cons, List.sum_cons, ih fun z => hn (List.mem_cons_of_mem _ z), if_neg (fun z => hn (by rw [z]; exact List.mem_cons_self ..)), Rat.add_zero]
    by_cases e : t = k
    · subst e
      rw [if_pos rfl, zero ks nd.1, Rat.add_zero]
    · rw [if_neg e, Rat.zero_add]
      exact ih nd.2 ((List.mem_cons.mp h).resolve_left e)
theorem sum_add (ks : List (List Int)) (f g : List Int → Rat) : (ks.map fun k => f k + g k).sum = (ks.map f).sum + (ks.map g).sum := by
  induction ks with
  | nil => rw [List.map_nil, List.map_nil, List.map_nil, List.sum_nil, Rat.add_zero]
  | cons k ks ih =>
    rw [List.map_cons, List.map_cons, List.map_cons, List.sum_cons, List.sum_cons, List.sum_cons, ih]
    grind
theorem sum_ratK {z : Bool} {ks : List (List Int)} (nd : ks.Nodup) : ∀ L : List JL, (∀ l, l ∈ L → selJ z l ∈ ks) → (ks.map (ratK z L)).sum = (L.map ratJ).sum
  | [], _ => by
    have : ∀ ks : List (List Int), (ks.map (ratK z [])).sum = 0 := fun ks => by
      induction ks with
      | nil => rfl
      | cons k ks ih =>
        rw [List.map_cons, List.sum_cons, ih, Rat.add_zero]
        rfl
    rw [this]
    rfl
  | l :: L, h => by
    have ih := sum_ratK nd L fun m hm => h m (List.mem_cons_of_mem _ hm)
    have e : ks.map (ratK z (l :: L)) = ks.map fun k => (if selJ z l = k then ratJ l else 0) + ratK z L k := List.map_congr_left fun k _ => by
      unfold ratK
      rw [List.map_cons, List.sum_cons]
    rw [e, sum_add ks (fun k => if selJ z l = k then ratJ l else 0) (ratK z L), ih, sum_ite nd (h l (List.mem_cons_self ..)), List.map_cons, List.sum_cons]
theorem ratP_at {A : List RowP} (nd : (A.map (·.1)).Nodup) {r : RowP} (h : r ∈ A) : ratP A r.1 = raP r := by
  unfold ratP
  induction A with
  | nil => cases h
  | cons a A ih =>
    have nd' : (a.1 :: A.map (·.1)).Nodup := nd
    rw [List.nodup_cons] at nd'
    rw [List.map_cons, List.sum_cons]
    have zero : ∀ B : List RowP, r.1 ∉ B.map (·.1) → (B.map fun s => if s.1 = r.1 then ((s.2.1 : Int) : Rat) / ((s.2.2 : Int) : Rat) else 0).sum = 0 := fun B => by
      induction B with
      | nil => exact fun _ => rfl
      | cons s B ih =>
        intro hn
        rw [List.map_cons, List.sum_cons, ih fun z => hn (List.mem_cons_of_mem _ z), if_neg (fun z => hn (by rw [← z]; exact List.mem_map_of_mem (List.mem_cons_self ..))), Rat.add_zero]
    rcases List.mem_cons.mp h with rfl | h
    · rw [if_pos rfl, zero A nd'.1, Rat.add_zero]
      rfl
    · have : a.1 ≠ r.1 := fun z => nd'.1 (z ▸ List.mem_map_of_mem (f := (·.1)) h)
      rw [if_neg this, Rat.zero_add]
      exact ih nd'.2 h
theorem SameR.sum {z : Bool} {L : List JL} {n : Nat} {b : Int} {A : List RowP} (h : SameR z L A) (hA : SpA n b A) : (L.map ratJ).sum = 1 := by
  have s := sum_ratK (z := z) hA.nd L fun l hl => by
    obtain ⟨r, hr, e⟩ := (h.ks (selJ z l)).mp ⟨l, hl, rfl⟩
    rw [← e]
    exact List.mem_map_of_mem hr
  rw [← s, List.map_map]
  have : A.map (ratK z L ∘ (·.1)) = A.map raP := List.map_congr_left fun r hr => by
    show ratK z L r.1 = raP r
    rw [h.ws, ratP_at hA.nd hr]
  rw [this]
  exact hA.one
theorem SameR.kind {z : Bool} {L : List JL} {n : Nat} {b : Int} {A : List RowP} (h : SameR z L A) (hA : SpA n b A) {l : JL} (hl : l ∈ L) : (selJ z l).length = n ∧ (selJ z l).sum = b := by
  obtain ⟨r, hr, e⟩ := (h.ks (selJ z l)).mp ⟨l, hl, rfl⟩
  rw [← e]
  exact ⟨hA.ln r hr, hA.sm r hr⟩
end Vm
namespace Vm
open PySem L2
/-! ### a joint spread by rows has its rows' sides -/
section
variable {κ : Type} [DecidableEq κ]
theorem sum_iteG {ks : List κ} {t : κ} {x : Int} (nd : ks.Nodup) (h : t ∈ ks) : (ks.map fun k => if t = k then x else 0).sum = x := by
  induction ks with
  | nil => cases h
  | cons k ks ih =>
    rw [List.nodup_cons] at nd
    rw [List.map_cons, List.sum_cons]
    have zero : ∀ ks : List κ, t ∉ ks → (ks.map fun k => if t = k then x else 0).sum = 0 := fun ks => by
      induction ks with
      | nil => exact fun _ => rfl
      | cons k ks ih =>
        intro hn
        rw [List.map_cons, List.sum_cons, ih fun z => hn (List.mem_cons_of_mem _ z), if_neg (fun z => hn (by rw [z]; exact List.mem_cons_self ..))]
        rfl
    by_cases e : t = k
    · subst e
      rw [if_pos rfl, zero ks nd.1]
      omega
    · rw [if_neg e, ih nd.2 ((List.mem_cons.mp h).resolve_left e)]
      omega
theorem sum_addG (ks : List κ) (f g : κ → Int) : (ks.map fun k => f k + g k).sum = (ks.map f).sum + (ks.map g).sum := by
  induction ks with
  | nil => rfl
  | cons k ks ih =>
    rw [List.map_cons, List.map_cons, List.map_cons, List.sum_cons, List.sum_cons, List.sum_cons, ih]
    omega
end
/-- the lines of a joint spread by rows -/
def linL (F : List (P2 × Int)) : List JL := (sortP (gkeys F)).map fun k => (k.1, k.2, gwt F k / gI (gwt F k) (gsum F), gsum F / gI (gwt F k) (gsum F))
end Vm
namespace Vm
open PySem L2
/-! ### the joint spread of rows is let by for its sides -/
theorem perm_sumE {as bs : List Int} (h : as.Perm bs) : as.sum = bs.sum := by
  induction h with
  | nil => rfl
  | cons a _ ih => rw [List.sum_cons, List.sum_cons, ih]
  | swap a b l =>
    rw [List.sum_cons, List.sum_cons, List.sum_cons, List.sum_cons]
    omega
  | trans _ _ i1 i2 => rw [i1, i2]
end Vm
namespace Vm
open PySem L2 PySem.Spec PyProof.Rows
/-! ### a call that is lent one list: it runs with this cell alone, wherever it stands -/
def RF.toQ (k : Nat) (s : S) : RF → R Rv
  | .ok (.d x) [.l ds] => .ok (.d x) ⟨s.v, s.m.set k (.l ds)⟩
  | .ok (.new c) [.l ds] => .ok (.new c) ⟨s.v, s.m.set k (.l ds)⟩
  | .ex e [.l ds] => .ex e ⟨s.v, s.m.set k (.l ds)⟩
  | _ => .bad
def goQ (f : Fn) (k : Nat) (as : List Sl) (s : S) : Option Cell → R Rv
  | some (.l ds) => (f (.c 0 :: as) [.l ds]).toQ k s
  | _ => .bad
def kCallQ (f : Fn) : List Sl → S → R Rv
  | .c k :: as, s => if as.all Sl.isD = true then goQ f k as s s.m[k]? else .bad
  | _, _ => .bad
def cCallQ (f : Fn) (cl : CL) : CE := fun s => (cl s).bind (kCallQ f)
@[simp] theorem cCallQ_s {f : Fn} {cl : CL} {s : S} : cCallQ f cl s = (cl s).bind (kCallQ f) := Eq.trans rfl rfl
@[simp] theorem kCallQ_s {f : Fn} {k : Nat} {as : List Sl} {s : S} : kCallQ f (.c k :: as) s = if as.all Sl.isD = true then goQ f k as s s.m[k]? else .bad := Eq.trans rfl rfl
@[simp] theorem goQ_s {f : Fn} {k : Nat} {as : List Sl} {s : S} {ds : List D} : goQ f k as s (some (.l ds)) = (f (.c 0 :: as) [.l ds]).toQ k s := Eq.trans rfl rfl
@[simp] theorem toQ_d {k : Nat} {s : S} {x : D} {ds : List D} : (RF.ok (.d x) [.l ds]).toQ k s = .ok (.d x) ⟨s.v, s.m.set k (.l ds)⟩ := Eq.trans rfl rfl
@[simp] theorem toQ_n {k : Nat} {s : S} {c : Cell} {ds : List D} : (RF.ok (.new c) [.l ds]).toQ k s = .ok (.new c) ⟨s.v, s.m.set k (.l ds)⟩ := Eq.trans rfl rfl
@[simp] theorem toQ_e {k : Nat} {s : S} {e : String} {ds : List D} : (RF.ex e [.l ds]).toQ k s = .ex e ⟨s.v, s.m.set k (.l ds)⟩ := Eq.trans rfl rfl
end Vm
namespace Vm
open PySem L2 PySem.Spec PyProof.Rows
/-! ### a feed lent from wherever it stands -/
theorem IsFeed.l {B : Nat} {p : Cell} (h : IsFeed B p) : ∃ ds, p = .l ds := by
  obtain ⟨g, c, s, rfl, _⟩ := h.ex
  exact ⟨_, rfl⟩
end Vm
namespace Vm
open PySem L2
/-! ### joint spreads gathered: shares of pairs of loads, added -/
def EvJ (K : Nat) (N : Int) (E : List (P2 × D)) (A : List (P2 × Int)) : Prop := Paired (fun (e : P2 × D) (a : P2 × Int) => e.1 = a.1 ∧ Tell K e.2 ((a.2 : Rat) / N) ∧ 0 ≤ a.2) E A
theorem EvJ.pos {K : Nat} {N : Int} {E : List (P2 × D)} {A : List (P2 × Int)} (h : EvJ K N E A) : ∀ a, a ∈ A → 0 ≤ a.2 := by
  induction h with
  | nil => exact fun a h => nomatch h
  | cons q _ ih =>
    intro a ha
    rcases List.mem_cons.mp ha with rfl | ha
    · exact q.2.2
    · exact ih a ha
end Vm
namespace Vm
open PySem L2
/-! ### what events give to a question f, together -/
section
variable {κ : Type} [DecidableEq κ]
def IE (E : List (κ × Int)) (f : κ → Int) : Int := (E.map fun e => f e.1 * e.2).sum
theorem IE_cons {e : κ × Int} {E : List (κ × Int)} {f : κ → Int} : IE (e :: E) f = f e.1 * e.2 + IE E f := by
  unfold IE
  rw [List.map_cons, List.sum_cons]
theorem IE_keys {ks : List κ} {f : κ → Int} (nd : ks.Nodup) : ∀ E : List (κ × Int), (∀ e, e ∈ E → e.1 ∈ ks) → (ks.map fun k => f k * gev E k).sum = IE E f
  | [], _ => by
    have : ∀ ks : List κ, (ks.map fun k => f k * gev ([] : List (κ × Int)) k).sum = 0 := fun ks => by
      induction ks with
      | nil => rfl
      | cons k ks ih =>
        rw [List.map_cons, List.sum_cons, ih]
        have : gev ([] : List (κ × Int)) k = 0 := rfl
        rw [this, Int.mul_zero, Int.zero_add]
    exact this ks
  | e :: E, h => by
    have ih := IE_keys (f := f) nd E fun m hm => h m (List.mem_cons_of_mem _ hm)
    have eq : (ks.map fun k => f k * gev (e :: E) k) = ks.map fun k => (if e.1 = k then f e.1 * e.2 else 0) + f k * gev E k := List.map_congr_left fun k _ => by
      have g : gev (e :: E) k = (if e.1 = k then e.2 else 0) + gev E k := rfl
      rw [g, Int.mul_add]
      by_cases hk : e.1 = k
      · subst hk
        rw [if_pos rfl, if_pos rfl]
      · rw [if_neg hk, if_neg hk, Int.mul_zero]
    rw [eq, sum_addG ks (fun k => if e.1 = k then f e.1 * e.2 else 0) fun k => f k * gev E k, ih, sum_iteG nd (h e (List.mem_cons_self ..)), IE_cons]
theorem IE_at {ks : List κ} {w : κ → Int} {f : κ → Int} : IE (ks.map fun k => (k, w k)) f = (ks.map fun k => f k * w k).sum := by
  unfold IE
  rw [List.map_map]
  rfl
end
/-- a joint spread's lines by whole weights -/
def linesA (F : List (P2 × Int)) : List (P2 × Int) := (sortP (gkeys F)).map fun k => (k, gwt F k)
theorem IE_wt {F : List (List Int × Int)} (nd : (keys F).Nodup) (f : List Int → Int) : IE F f = ((keys F).map fun k => f k * wt F k).sum := by
  unfold IE keys
  rw [List.map_map]
  congr 1
  refine List.map_congr_left fun p hp => ?_
  show f p.1 * p.2 = f p.1 * wt F p.1
  unfold wt
  rw [aget_nd nd hp]
  rfl
theorem IE_acc (E : List (List Int × Int)) (f : List Int → Int) : IE (accL E) f = IE E f := by
  rw [IE_wt (accL_nodup E)]
  have e : (fun k => f k * wt (accL E) k) = fun k => f k * gev E k := funext fun k => by
    rw [accL_wt]
    rfl
  rw [e]
  exact IE_keys (accL_nodup E) E fun x hx => accL_keys.mpr (List.mem_map_of_mem hx)
/-! sums over ranges -/
/-! single spreads -/
/-! a ball leaving both -/
end Vm
namespace Vm
open PySem L2
/-! ### loads, again -/
/-! ### joint spreads by whole weights -/
theorem gget_nd {κ β : Type} [DecidableEq κ] : ∀ {F : List (κ × β)} {p : κ × β}, (gkeys F).Nodup → p ∈ F → gget F p.1 = some p.2
  | [], _, _, h => by cases h
  | a :: F, p, nd, h => by
    have nd : (a.1 :: gkeys F).Nodup := nd
    have nd := List.nodup_cons.mp nd
    rcases List.mem_cons.mp h with rfl | h
    · unfold gget
      rw [List.find?_cons_of_pos (by simp)]
      rfl
    · have ne : a.1 ≠ p.1 := fun z => nd.1 (by
        rw [z]
        exact List.mem_map_of_mem h)
      have ih := gget_nd nd.2 h
      unfold gget at ih ⊢
      rw [List.find?_cons_of_neg (by simpa using ne)]
      exact ih
theorem gsum_IE {κ : Type} [DecidableEq κ] (E : List (κ × Int)) : gsum E = IE E fun _ => 1 := by
  unfold gsum IE
  refine congrArg List.sum (List.map_congr_left fun e _ => (Int.one_mul _).symm)
theorem IE_linesA {F : List (P2 × Int)} (nd : (gkeys F).Nodup) (f : P2 → Int) : IE (linesA F) f = IE F f := by
  unfold linesA
  rw [IE_at, perm_sumE ((sortP_perm (gkeys F)).map fun k => f k * gwt F k)]
  unfold gkeys IE
  rw [List.map_map]
  refine congrArg List.sum (List.map_congr_left fun p hp => ?_)
  show f p.1 * gwt F p.1 = f p.1 * p.2
  unfold gwt
  rw [gget_nd nd hp]
  rfl
structure JW (n b : Nat) (F : List (P2 × Int)) : Prop where
  nd : (gkeys F).Nodup
  ne : gkeys F ≠ []
  w : ∀ k, k ∈ gkeys F → 1 ≤ gwt F k
  l1 : ∀ k, k ∈ gkeys F → Ld n (b : Int) k.1
  l2 : ∀ k, k ∈ gkeys F → Ld n (b : Int) k.2
  mj : ∀ k, k ∈ gkeys F → Maj k.1 k.2
theorem mem_linesA {F : List (P2 × Int)} {a : P2 × Int} : a ∈ linesA F ↔ a.1 ∈ gkeys F ∧ a.2 = gwt F a.1 := by
  unfold linesA
  rw [List.mem_map]
  constructor
  · rintro ⟨k, hk, rfl⟩
    exact ⟨sortP_mem.mp hk, rfl⟩
  · rintro ⟨h1, h2⟩
    exact ⟨a.1, sortP_mem.mpr h1, by rw [← h2]⟩
theorem gsum_linesA {F : List (P2 × Int)} (nd : (gkeys F).Nodup) : gsum (linesA F) = gsum F := by rw [gsum_IE, gsum_IE, IE_linesA nd]
theorem JW.s1 {n b : Nat} {F : List (P2 × Int)} (h : JW n b F) : 1 ≤ gsum F ∧ ∀ k, k ∈ gkeys F → gwt F k ≤ gsum F := by
  rw [← gsum_linesA h.nd]
  have nn : ∀ x, x ∈ (linesA F).map (·.2) → 0 ≤ x := fun x hx => by
    obtain ⟨a, ha, rfl⟩ := List.mem_map.mp hx
    obtain ⟨h1, h2⟩ := mem_linesA.mp ha
    rw [h2]
    have := h.w _ h1
    omega
  have le : ∀ k, k ∈ gkeys F → gwt F k ≤ gsum (linesA F) := fun k hk => mem_le_sum nn _ (List.mem_map.mpr ⟨(k, gwt F k), mem_linesA.mpr ⟨hk, rfl⟩, rfl⟩)
  refine ⟨?_, le⟩
  obtain ⟨k, ks, e⟩ := List.exists_cons_of_ne_nil h.ne
  have hk : k ∈ gkeys F := by rw [e]; exact List.mem_cons_self ..
  have := le k hk
  have := h.w k hk
  omega
/-- the table of a pairing by whole weights: rows us, columns vs, nothing above -/
structure PT (n : Nat) (M : Int) (us vs : List Int) (R : Nat → Nat → Int) : Prop where
  row : ∀ a, a < n → rs n (R a) = us.getD a 0
  col : ∀ b, b < n → rs n (fun a => R a b) = vs.getD b 0
  ge : ∀ a b, 0 ≤ R a b
  sup : ∀ a b, b < n → a < b → R a b = 0
  all : (rs n fun a => rs n fun b => R a b) = M
/-! ### as data -/
/-- a line's share of the common bottom is its weight -/
theorem aJ_line {w N : Int} (h0 : 1 ≤ w) (h : 1 ≤ N) {a b : List Int} : aJ N (a, b, w / gI w N, N / gI w N) = w := by
  show w / gI w N * (N / (N / gI w N)) = w
  have g1 := gI_pos (w := w) h
  have gw : gI w N ∣ w := Int.gcd_dvd_left (a := w) (b := N)
  have gN : gI w N ∣ N := Int.gcd_dvd_right (a := w) (b := N)
  obtain ⟨c, hc⟩ := gN
  obtain ⟨d, hd⟩ := gw
  generalize gI w N = g at *
  have c1 : 1 ≤ c := by
    rcases Int.lt_or_le 0 c with q | q
    · omega
    · have := Int.mul_nonpos_of_nonneg_of_nonpos (show 0 ≤ g by omega) q
      omega
  rw [hd, hc, Int.mul_ediv_cancel_left _ (show g ≠ 0 by omega), Int.mul_ediv_cancel_left _ (show g ≠ 0 by omega), Int.mul_ediv_cancel _ (show c ≠ 0 by omega), Int.mul_comm]
def selP (z : Bool) (k : P2) : List Int := if z then k.2 else k.1
theorem evJ_linL {n b : Nat} {F : List (P2 × Int)} (h : JW n b F) (z : Bool) : evJ z (gsum F) (linL F) = (sortP (gkeys F)).map fun k => (selP z k, gwt F k) := by
  unfold evJ linL
  rw [List.map_map]
  refine List.map_congr_left fun k hk => ?_
  have hk := sortP_mem.mp hk
  show (selJ z _, aJ (gsum F) (k.1, k.2, _, _)) = _
  rw [aJ_line (h.w k hk) h.s1.1]
  cases z <;> rfl
theorem IE_evJ {n b : Nat} {F : List (P2 × Int)} (h : JW n b F) (z : Bool) (f : List Int → Int) : IE (evJ z (gsum F) (linL F)) f = IE F fun k => f (selP z k) := by
  rw [evJ_linL h, ← IE_linesA h.nd]
  unfold linesA IE
  rw [List.map_map, List.map_map]
  rfl
end Vm
namespace Vm
open PySem L2 PySem.Spec PyProof.Rows
/-! ### means, over any whole weights -/
def hsum (j : Nat) (k : List Int) : Int := (k.take j).sum
/-! ### of two loads in order the questions are in order -/
end Vm
namespace Vm
open PySem L2 PySem.Spec PyProof.Rows
/-! ### spreads by whole weights, each load above nought -/
structure SW (n b : Nat) (F : List (List Int × Int)) : Prop where
  nd : (keys F).Nodup
  ne : keys F ≠ []
  w : ∀ k, k ∈ keys F → 1 ≤ wt F k
  ld : ∀ k, k ∈ keys F → Ld n (b : Int) k
theorem SW.s1 {n b : Nat} {F : List (List Int × Int)} (h : SW n b F) : 1 ≤ sumW F ∧ ∀ k, k ∈ keys F → wt F k ≤ sumW F := by
  obtain ⟨_, b⟩ := sum_ge h.nd fun k hk => by have := h.w k hk; omega
  refine ⟨?_, b⟩
  obtain ⟨k, ks, e⟩ := List.exists_cons_of_ne_nil h.ne
  have hk : k ∈ keys F := by rw [e]; exact List.mem_cons_self ..
  have := b k hk
  have := h.w k hk
  omega
theorem SW.few {n b : Nat} {F : List (List Int × Int)} (h : SW n b F) (hb : (n ≤ 6 ∧ b ≤ 12) ∨ (n ≤ 2 ∧ b ≤ 60)) : F.length ≤ 60 := by
  have := Vm.few h.nd h.ld hb
  unfold keys at this
  rwa [List.length_map] at this
theorem Spr.len {K : Nat} {F : List (List Int × Int)} {ds : List D} (h : Spr K F ds) : ds.length = F.length := by
  obtain ⟨g, rfl, _⟩ := h
  rw [List.length_map, sortL_len]
  unfold keys
  rw [List.length_map]
/-! ### a joint spread and its two sides -/
structure Side (n b : Nat) (F : List (P2 × Int)) (F1 : List (List Int × Int)) (z : Bool) : Prop where
  sw : SW n b F1
  m : ∀ f : List Int → Int, IE F (fun k => f (selP z k)) = IE F1 f
theorem Side.sum {n b : Nat} {F : List (P2 × Int)} {F1 : List (List Int × Int)} {z : Bool} (h : Side n b F F1 z) : sumW F1 = gsum F := by
  have := h.m fun _ => 1
  rw [← gsum_IE, ← gsum_IE] at this
  exact this.symm
/-- the side told by parts is the spread that stands beside -/
theorem Side.data {K n b : Nat} {F : List (P2 × Int)} {F1 : List (List Int × Int)} {z : Bool} {ds : List D} (h : Side n b F F1 z) (jw : JW n b F) (hS : Spr K F1 ds) (bs : Bs K (gsum F)) (hK : K ≤ 8900) : spN (gsum F) (accL (evJ z (gsum F) (linL F))) = ds := by
  have s1 := jw.s1
  have sm := h.sum
  obtain ⟨A, hA⟩ : ∃ A, accL (evJ z (gsum F) (linL F)) = A := ⟨_, rfl⟩
  rw [hA]
  have nd : (keys A).Nodup := by rw [← hA]; exact accL_nodup _
  have pos : ∀ k, k ∈ keys A → 1 ≤ wt A k := fun k hk => by
    rw [← hA] at hk ⊢
    obtain ⟨e, he, rfl⟩ := List.mem_map.mp (accL_keys.mp hk)
    rw [evJ_linL jw] at he
    obtain ⟨p, hp, rfl⟩ := List.mem_map.mp he
    have hp := sortP_mem.mp hp
    have w1 := jw.w p hp
    rw [accL_wt, evJ_linL jw]
    have nn : ∀ x, x ∈ (((sortP (gkeys F)).map fun k => (selP z k, gwt F k)).map fun a => if a.1 = selP z p then a.2 else 0) → 0 ≤ x := fun x hx => by
      obtain ⟨s, hs, rfl⟩ := List.mem_map.mp hx
      obtain ⟨q, hq, rfl⟩ := List.mem_map.mp hs
      have := jw.w q (sortP_mem.mp hq)
      show 0 ≤ (if selP z q = selP z p then gwt F q else 0)
      split <;> omega
    have m : gwt F p ∈ ((sortP (gkeys F)).map fun k => (selP z k, gwt F k)).map fun a => if a.1 = selP z p then a.2 else 0 := List.mem_map.mpr ⟨(selP z p, gwt F p), List.mem_map.mpr ⟨p, sortP_mem.mpr hp, rfl⟩, if_pos rfl⟩
    have := mem_le_sum nn _ m
    show 1 ≤ (((sortP (gkeys F)).map fun k => (selP z k, gwt F k)).map fun a => if a.1 = selP z p then a.2 else 0).sum
    omega
  have ie : ∀ f, IE A f = IE F1 f := fun f => by
    rw [← hA, IE_acc, IE_evJ jw, h.m]
  have wt_ie : ∀ (B : List (List Int × Int)), (keys B).Nodup → ∀ k, IE B (fun x => if x = k then 1 else 0) = wt B k := fun B nB k => by
    rw [IE_wt nB]
    by_cases hk : k ∈ keys B
    · rw [List.map_congr_left (g := fun x => if k = x then wt B k else 0) fun x _ => by
        by_cases e : x = k
        · rw [if_pos e, if_pos e.symm, e, Int.one_mul]
        · rw [if_neg e, if_neg fun z => e z.symm, Int.zero_mul]]
      exact sum_iteG nB hk
    · rw [List.map_congr_left (g := fun _ => (0 : Int)) fun x hx => by
        rw [if_neg fun z => hk (by rw [← z]; exact hx), Int.zero_mul]]
      have : wt B k = 0 := by
        unfold wt
        rw [aget_none hk]
        rfl
      rw [this]
      generalize keys B = ks
      induction ks with
      | nil => rfl
      | cons k ks ih => rw [List.map_cons, List.sum_cons, ih]; rfl
  have wts : ∀ k, wt A k = wt F1 k := fun k => by
    rw [← wt_ie A nd, ← wt_ie F1 h.sw.nd, ie]
  have kk : ∀ k, k ∈ keys A ↔ k ∈ keys F1 := fun k => by
    have zero : ∀ (B : List (List Int × Int)), k ∉ keys B → wt B k = 0 := fun B hk => by
      unfold wt
      rw [aget_none hk]
      rfl
    constructor
    · intro hk
      have := pos k hk
      exact Classical.byContradiction fun z => by
        have := zero F1 z
        rw [← wts] at this
        omega
    · intro hk
      have := h.sw.w k hk
      exact Classical.byContradiction fun z => by
        have := zero A z
        rw [wts] at this
        omega
  have sA : sumW A = gsum F := by
    have := ie fun _ => 1
    rw [← gsum_IE, ← gsum_IE] at this
    exact this.trans sm
  have spA : Spr K A (spN (gsum F) A) := ⟨fun k => lw (wt A k) (gsum F), rfl, fun k hk => by
    rw [sA]
    have a := pos k hk
    have := (sum_ge nd fun k hk => by have := pos k hk; omega).2 k hk
    exact lw_tell (by omega) s1.1 (bs_between (by omega) (by rw [← sA]; exact this) bs) bs hK⟩
  exact spA.one hS nd h.sw.nd kk fun k hk => by rw [wts, sA, sm]
/-! the steps -/
/-! one pair alone -/
end Vm
namespace Vm
open PySem L2 PySem.Spec PyProof.Rows
/-! ### a dict with plain keys that will not change any more is locked: from then on it is data -/
def fD (kvs : List (L2.Key × D)) : D := .dict (tagF :: kvs.map fun p => (kD p.1, p.2))
/-! ### what they tell -/
end Vm
namespace Vm
open PySem L2 PySem.Spec PyProof.Rows
/-! ### flows in whole numbers -/
structure FlI (n m : Nat) (gv tk : Nat → Int) (W : Nat → Nat → Bool) (l r : Nat → Int) (x : Nat → Nat → Int) : Prop where
  l0 : ∀ i, i < n → 0 ≤ l i
  r0 : ∀ j, j < m → 0 ≤ r j
  x0 : ∀ i j, i < n → j < m → 0 ≤ x i j
  w : ∀ i j, i < n → j < m → 0 < x i j → W i j = true
  row : ∀ i, i < n → l i + rs m (x i) = gv i
  col : ∀ j, j < m → r j + rs n (fun i => x i j) = tk j
/-- givers and takers reached, each with the one ahead, by ranks that rise -/
structure Rch (n m : Nat) (W : Nat → Nat → Bool) (l : Nat → Int) (x : Nat → Nat → Int) (G : List (Nat × Option Nat)) (T : List (Nat × Nat)) (tg tt : Nat → Nat) (B : Nat) : Prop where
  gn : (G.map (·.1)).Nodup
  tn : (T.map (·.1)).Nodup
  g0 : ∀ i, (i, none) ∈ G → i < n ∧ 0 < l i
  g1 : ∀ i j, (i, some j) ∈ G → i < n ∧ 0 < x i j ∧ tt j < tg i ∧ ∃ k, (j, k) ∈ T
  t1 : ∀ j i, (j, i) ∈ T → j < m ∧ W i j = true ∧ tg i < tt j ∧ ∃ p, (i, p) ∈ G
  bt : ∀ j i, (j, i) ∈ T → tt j ≤ B
  bg : ∀ i p, (i, p) ∈ G → tg i ≤ B
structure Cls (n m : Nat) (W : Nat → Nat → Bool) (l : Nat → Int) (x : Nat → Nat → Int) (G : List (Nat × Option Nat)) (T : List (Nat × Nat)) : Prop where
  c0 : ∀ i, i < n → 0 < l i → ∃ p, (i, p) ∈ G
  c1 : ∀ i p, (i, p) ∈ G → ∀ j, j < m → W i j = true → ∃ k, (j, k) ∈ T
  c2 : ∀ j k, (j, k) ∈ T → ∀ i, i < n → 0 < x i j → ∃ p, (i, p) ∈ G
theorem Rch.gin {n m : Nat} {W : Nat → Nat → Bool} {l : Nat → Int} {x : Nat → Nat → Int} {G : List (Nat × Option Nat)} {T : List (Nat × Nat)} {tg tt : Nat → Nat} {B : Nat} (h : Rch n m W l x G T tg tt B) {i : Nat} {p : Option Nat} (hi : (i, p) ∈ G) : i < n := by
  cases p with
  | none => exact (h.g0 i hi).1
  | some j => exact (h.g1 i j hi).1
/-- the road from a taker back to a giver that has something left -/
inductive Rd (G : List (Nat × Option Nat)) (T : List (Nat × Nat)) : Nat → List (Nat × Nat) → Nat → Prop
  | last {e i : Nat} : (e, i) ∈ T → (i, none) ∈ G → Rd G T e [(i, e)] i
  | step {e i j z : Nat} {P : List (Nat × Nat)} : (e, i) ∈ T → (i, some j) ∈ G → Rd G T j P z → Rd G T e ((i, e) :: P) z
section
variable {n m : Nat} {W : Nat → Nat → Bool} {l r : Nat → Int} {x : Nat → Nat → Int} {G : List (Nat × Option Nat)} {T : List (Nat × Nat)} {tg tt : Nat → Nat} {B : Nat} {gv tk : Nat → Int}
theorem Rd.rank (h : Rch n m W l x G T tg tt B) {e z : Nat} {P : List (Nat × Nat)} (hr : Rd G T e P z) : ∀ q, q ∈ P → tt q.2 ≤ tt e ∧ tg q.1 < tt e := by
  induction hr with
  | last a b =>
    intro q hq
    rw [List.mem_singleton.mp hq]
    exact ⟨Nat.le_refl _, (h.t1 _ _ a).2.2.1⟩
  | @step e i j z P a b c ih =>
    intro q hq
    have h1 := (h.t1 _ _ a).2.2.1
    have h2 := (h.g1 _ _ b).2.2.1
    rcases List.mem_cons.mp hq with rfl | hq
    · exact ⟨Nat.le_refl _, h1⟩
    · have := ih q hq
      omega
theorem Rd.inn (h : Rch n m W l x G T tg tt B) {e z : Nat} {P : List (Nat × Nat)} (hr : Rd G T e P z) : e < m ∧ z < n ∧ (z, none) ∈ G ∧ (∃ k, (e, k) ∈ T) ∧ ∀ q, q ∈ P → q.1 < n ∧ q.2 < m ∧ W q.1 q.2 = true := by
  induction hr with
  | last a b =>
    have t := h.t1 _ _ a
    exact ⟨t.1, h.gin b, b, ⟨_, a⟩, fun q hq => by
      rw [List.mem_singleton.mp hq]
      exact ⟨h.gin b, t.1, t.2.1⟩⟩
  | @step e i j z P a b c ih =>
    have t := h.t1 _ _ a
    refine ⟨t.1, ih.2.1, ih.2.2.1, ⟨_, a⟩, fun q hq => ?_⟩
    rcases List.mem_cons.mp hq with rfl | hq
    · exact ⟨h.gin b, t.1, t.2.1⟩
    · exact ih.2.2.2.2 q hq
/-- what is moved along a road -/
def pushX (gf : Nat → Option Nat) (c : Int) : (Nat → Nat → Int) → List (Nat × Nat) → Nat → Nat → Int
  | x, [] => x
  | x, q :: P => pushX gf c (match gf q.1 with
    | some j => bump (bump x q.1 q.2 c) q.1 j (-c)
    | none => bump x q.1 q.2 c) P
structure PsI (n m : Nat) (W : Nat → Nat → Bool) (y x : Nat → Nat → Int) (e z : Nat) (c : Int) : Prop where
  x0 : ∀ i j, i < n → j < m → 0 ≤ y i j
  w : ∀ i j, i < n → j < m → 0 < y i j → W i j = true
  row : ∀ i, rs m (y i) = rs m (x i) + if i = z then c else 0
  col : ∀ j, rs n (fun i => y i j) = rs n (fun i => x i j) + if j = e then c else 0
theorem push_rd (h : Rch n m W l x G T tg tt B) {gf : Nat → Option Nat} (hg : ∀ i p, (i, p) ∈ G → gf i = p) {c : Int} (c0 : 0 ≤ c) {e z : Nat} {P : List (Nat × Nat)} (hr : Rd G T e P z) :
    ∀ y : Nat → Nat → Int, (∀ i j, i < n → j < m → 0 ≤ y i j) → (∀ i j, i < n → j < m → 0 < y i j → W i j = true) → (∀ q, q ∈ P → ∀ j, gf q.1 = some j → c ≤ y q.1 j) → PsI n m W (pushX gf c y P) y e z c := by
  induction hr with
  | @last e i a b =>
    intro y y0 yw yc
    have t := h.t1 _ _ a
    have hin := h.gin b
    have gi := hg _ _ b
    show PsI n m W (match gf i with
      | some j => bump (bump y i e c) i j (-c)
      | none => bump y i e c) y e i c
    rw [gi]
    refine ⟨fun a b ha hb => ?_, fun a b ha hb q => ?_, fun a => bump_row t.1 a, fun b => bump_col hin b⟩
    · show 0 ≤ bump y i e c a b
      unfold bump
      have := y0 a b ha hb
      split <;> omega
    · by_cases z : a = i ∧ b = e
      · rw [z.1, z.2]
        exact t.2.1
      · have q : 0 < bump y i e c a b := q
        have : bump y i e c a b = y a b := by
          unfold bump
          rw [if_neg z]
        rw [this] at q
        exact yw a b ha hb q
  | @step e i j z P a b hP ih =>
    intro y y0 yw yc
    have t := h.t1 _ _ a
    have hin := h.gin b
    have gi := hg _ _ b
    have g1 := h.g1 _ _ b
    have pin := hP.inn h
    have rk := hP.rank h
    have ne : e ≠ j := fun z => by
      subst z
      omega
    have cj : c ≤ y i j := yc (i, e) (List.mem_cons_self ..) j gi
    have ym : ∀ a b, bump (bump y i e c) i j (-c) a b = if a = i ∧ b = j then y a b - c else if a = i ∧ b = e then y a b + c else y a b := fun a b => by
      unfold bump
      by_cases q : a = i ∧ b = j
      · rw [if_pos q, if_pos q, if_neg (fun z => ne (z.2.symm.trans q.2))]
        omega
      · rw [if_neg q, if_neg q]
    have ni : ∀ q, q ∈ P → q.1 ≠ i := fun q hq z => by
      have := (rk q hq).2
      rw [z] at this
      omega
    have I := ih (bump (bump y i e c) i j (-c)) (fun a b ha hb => by
      rw [ym]
      have := y0 a b ha hb
      split
      · rename_i q
        rw [q.1, q.2]
        omega
      · split <;> omega) (fun a b ha hb q => by
      rw [ym] at q
      by_cases q1 : a = i ∧ b = e
      · rw [q1.1, q1.2]
        exact t.2.1
      · refine yw a b ha hb ?_
        rw [if_neg q1] at q
        split at q
        · omega
        · exact q) (fun q hq k hk => by
      rw [ym, if_neg (fun z => ni q hq z.1), if_neg (fun z => ni q hq z.1)]
      exact yc q (List.mem_cons_of_mem _ hq) k hk)
    show PsI n m W (pushX gf c (match gf i with
      | some j => bump (bump y i e c) i j (-c)
      | none => bump y i e c) P) y e z c
    rw [gi]
    refine ⟨I.x0, I.w, fun a => ?_, fun b => ?_⟩
    · rw [I.row, bump_row pin.1 a, bump_row t.1 a]
      split <;> split <;> omega
    · rw [I.col, bump_col hin b, bump_col hin b]
      by_cases q1 : b = j
      · rw [if_pos q1, if_pos q1, if_neg (fun z => ne (z.symm.trans q1))]
        omega
      · rw [if_neg q1, if_neg q1]
        omega
/-- so much moved along a road -/
theorem FlI.push (f : FlI n m gv tk W l r x) (h : Rch n m W l x G T tg tt B) {gf : Nat → Option Nat} (hg : ∀ i p, (i, p) ∈ G → gf i = p) {c : Int} (c0 : 0 ≤ c) {e z : Nat} {P : List (Nat × Nat)} (hr : Rd G T e P z) (hc : ∀ q, q ∈ P → ∀ j, gf q.1 = some j → c ≤ x q.1 j) (cr : c ≤ r e) (cl : c ≤ l z) :
    FlI n m gv tk W (fun i => if i = z then l i - c else l i) (fun j => if j = e then r j - c else r j) (pushX gf c x P) := by
  have I := push_rd h hg c0 hr x f.x0 f.w hc
  refine ⟨fun i hi => ?_, fun j hj => ?_, I.x0, I.w, fun i hi => ?_, fun j hj => ?_⟩
  · have := f.l0 i hi
    show 0 ≤ if i = z then l i - c else l i
    split
    · rename_i q
      rw [q]
      omega
    · exact this
  · have := f.r0 j hj
    show 0 ≤ if j = e then r j - c else r j
    split
    · rename_i q
      rw [q]
      omega
    · exact this
  · rw [I.row]
    have := f.row i hi
    show (if i = z then l i - c else l i) + _ = _
    split <;> omega
  · rw [I.col]
    have := f.col j hj
    show (if j = e then r j - c else r j) + _ = _
    split <;> omega
def inT (T : List (Nat × Nat)) (j : Nat) : Prop := ∃ k, (j, k) ∈ T
instance (T : List (Nat × Nat)) : DecidablePred (inT T) := fun i => decidable_of_iff (∃ q ∈ T, q.1 = i) ⟨fun ⟨q, h, e⟩ => ⟨q.2, by rw [← e]; exact h⟩, fun ⟨p, h⟩ => ⟨(i, p), h, rfl⟩⟩
end
end Vm
namespace Vm
open PySem L2 PySem.Spec PyProof.Rows
/-! ### dicts whose keys are places -/
section
variable {β : Type}
def nK (f : β → D) (L : List (Nat × β)) : List (L2.Key × D) := L.map fun p => (.inl (p.1 : Int), f p.2)
def keyN (L : List (Nat × β)) (k : Nat) : Prop := ∃ p, (k, p) ∈ L
theorem keyN_iff {L : List (Nat × β)} {k : Nat} : keyN L k ↔ k ∈ L.map (·.1) := by
  constructor
  · rintro ⟨p, h⟩
    exact List.mem_map.mpr ⟨(k, p), h, rfl⟩
  · intro h
    obtain ⟨⟨a, p⟩, h2, rfl⟩ := List.mem_map.mp h
    exact ⟨p, h2⟩
instance (L : List (Nat × β)) (k : Nat) : Decidable (keyN L k) := decidable_of_iff (k ∈ L.map (·.1)) keyN_iff.symm
end
/-! ### what is reached grows -/
end Vm
namespace Vm
open PySem L2 PySem.Spec PyProof.Rows
/-! ### what is reached from what is left: the walk -/
/-- midway: pend: givers not yet gone through, one: the giver gone through up to b, other: the taker gone through up to c -/
structure Mid (n m : Nat) (W : Nat → Nat → Bool) (l : Nat → Int) (x : Nat → Nat → Int) (g0 : Nat) (pend : List Nat) (one b other c : Nat) (G : List (Nat × Option Nat)) (T : List (Nat × Nat)) (behind : List Nat) : Prop where
  r : ∃ tg tt, Rch n m W l x G T tg tt (G.length + T.length)
  c0 : ∀ i, i < n → 0 < l i → keyN G i
  pin : ∀ i, i ∈ pend ∨ i ∈ behind → keyN G i
  ln : G.length = g0 + behind.length
  c1 : ∀ i, keyN G i → i ∉ pend → i ∉ behind → ∀ j, j < m → W i j = true → keyN T j
  c1b : ∀ j, j < b → W one j = true → keyN T j
  c2 : ∀ j, keyN T j → j ≠ other → ∀ i, i < n → 0 < x i j → keyN G i
  c2b : keyN T other → ∀ i, i < c → 0 < x i other → keyN G i
section
variable {n m : Nat} {W : Nat → Nat → Bool} {l : Nat → Int} {x : Nat → Nat → Int} {g0 : Nat} {pend : List Nat} {one b other c : Nat} {G : List (Nat × Option Nat)} {T : List (Nat × Nat)} {behind : List Nat} {tg tt : Nat → Nat} {B : Nat}
theorem Mid.cls (h : Mid n m W l x g0 [] n 0 m 0 G T []) : Cls n m W l x G T := by
  obtain ⟨tg, tt, r⟩ := h.r
  refine ⟨h.c0, fun i p hp j hj hw => h.c1 i ⟨p, hp⟩ (fun z => nomatch z) (fun z => nomatch z) j hj hw, fun j k hk i hi hx => h.c2 j ⟨k, hk⟩ (by have := (r.t1 j k hk).1; omega) i hi hx⟩
/-- the givers that have something left, up to a place -/
def lefts (l : Nat → Int) (i : Nat) : List Nat := (List.range i).filter fun a => decide (0 < l a)
def start (l : Nat → Int) (i : Nat) : List (Nat × Option Nat) := (lefts l i).map fun a => (a, none)
end
end Vm
namespace Vm
open PySem L2 PySem.Spec PyProof.Rows
/-! ### the road back, and what is moved along it: the walks -/
section
variable {n m : Nat} {W : Nat → Nat → Bool} {l r : Nat → Int} {x : Nat → Nat → Int} {G : List (Nat × Option Nat)} {T : List (Nat × Nat)} {tg tt : Nat → Nat} {B : Nat} {gv tk : Nat → Int}
theorem Rd.head {e z : Nat} {P : List (Nat × Nat)} (h : Rd G T e P z) : ∃ i rest, P = (i, e) :: rest := by
  cases h with
  | last a b => exact ⟨_, _, rfl⟩
  | step a b c => exact ⟨_, _, rfl⟩
end
end Vm
namespace Vm
open PySem L2 PySem.Spec PyProof.Rows
/-! ### two spreads held: the walk -/
/-- a spread by whole weights -/
structure SpH (K n b : Nat) (A : List (List Int × Int)) (W : Int) : Prop where
  ne : A ≠ []
  ld : ∀ p, p ∈ A → Ld n (b : Int) p.1
  pw : (A.map (·.1)).Pairwise (· < ·)
  w : ∀ p, p ∈ A → 1 ≤ p.2 ∧ p.2 ≤ W
  sm : (A.map (·.2)).sum = W
  bs : Bs K W
  w1 : 1 ≤ W
end Vm
namespace Vm
open PySem L2 PySem.Spec PyProof.Rows
/-! ### sorted(set(loads)) -/
def ddL : List (List Int) → List (List Int)
  | [] => []
  | k :: ks => if k ∈ ks then ddL ks else k :: ddL ks
def setL (ks : List (List Int)) : List (List Int) := sortL (ddL ks)
end Vm
namespace Vm
open PySem L2 PySem.Spec PyProof.Rows
/-! ### one spread is no fuller than another: by all rising questions -/
theorem wt_nd {F : List (List Int × Int)} (nd : (keys F).Nodup) {p : List Int × Int} (h : p ∈ F) : wt F p.1 = p.2 := by
  unfold wt
  rw [aget_nd nd h]
  rfl
/-! ### balls that come and leave keep it -/
theorem SW.mem {n b : Nat} {F : List (List Int × Int)} (h : SW n b F) {e : List Int × Int} (he : e ∈ F) : 1 ≤ e.2 ∧ Ld n (b : Int) e.1 := by
  have k : e.1 ∈ keys F := List.mem_map_of_mem he
  have := h.w _ k
  rw [wt_nd h.nd he] at this
  exact ⟨this, h.ld _ k⟩
end Vm
namespace Vm
open PySem L2 PySem.Spec PyProof.Rows
/-! ### balls on a net beside balls by a rule -/
theorem Sd.ins {n b : Nat} {s : List Int} {r : Nat} (h : Sd n (b : Int) s) (hr : r < n) : Sd n ((b + 1 : Nat) : Int) (insS s r) := ⟨by rw [insS_len, h.len], insS_pos (by rw [h.len]; exact hr) h.pos, by rw [insS_sum (by rw [h.len]; exact hr), h.sum]; omega⟩
end Vm
namespace Vm
open PySem L2 PySem.Spec PyProof.Rows
/-! ### zip of three lists; `&` of whole numbers -/
def zipD3 : List D → List D → List D → List D
  | d :: ds, e :: es, f :: fs => .tuple [d, e, f] :: zipD3 ds es fs
  | _, _, _ => []
def zip3R (a b x : Rv) (s : S) : R (List D) := match a, b, x with
  | .d (.list ds), .d (.list es), .d (.list fs) => .ok (zipD3 ds es fs) s
  | _, _, _ => .bad
def kZip3b (c : CE) (a b : Rv) (s : S) : R (List D) := (cv c s).bind (zip3R a b)
def kZip3 (c' c'' : CE) (a : Rv) (s : S) : R (List D) := (cv c' s).bind (kZip3b c'' a)
def ciZip3 (c c' c'' : CE) : CI := fun s => (cv c s).bind (kZip3 c' c'')
@[simp] theorem zip3R_l {ds es fs : List D} {s : S} : zip3R (.d (.list ds)) (.d (.list es)) (.d (.list fs)) s = .ok (zipD3 ds es fs) s := Eq.trans rfl rfl
@[simp] theorem kZip3b_s {c : CE} {a b : Rv} {s : S} : kZip3b c a b s = (cv c s).bind (zip3R a b) := Eq.trans rfl rfl
@[simp] theorem kZip3_s {c' c'' : CE} {a : Rv} {s : S} : kZip3 c' c'' a s = (cv c' s).bind (kZip3b c'' a) := Eq.trans rfl rfl
@[simp] theorem ciZip3_s {c c' c'' : CE} {s : S} : ciZip3 c c' c'' s = (cv c s).bind (kZip3 c' c'') := Eq.trans rfl rfl
end Vm
namespace Vm
open PySem L2 PySem.Spec PyProof.Rows
/-! ### a whole determinant: linear in each place, nought of two alike -/
abbrev Ve := Nat → Int
def vlin (a : Int) (x y : Ve) : Ve := fun i => a * x i + y i
def gS (f : List Ve → Int) (c : Nat) : List Ve → List Ve → Int
  | _, [] => 0
  | pre, v :: post => v c * f (pre ++ post) - gS f c (pre ++ [v]) post
def dt : Nat → Nat → List Ve → Int
  | 0, _, _ => 1
  | n + 1, c, l => gS (dt n (c + 1)) c [] l
structure MA (f : List Ve → Int) (n : Nat) : Prop where
  lin : ∀ (p q : List Ve) (a : Int) (x y : Ve), (p ++ x :: q).length = n → f (p ++ vlin a x y :: q) = a * f (p ++ x :: q) + f (p ++ y :: q)
  alt : ∀ (p q : List Ve) (x : Ve), (p ++ x :: x :: q).length = n → f (p ++ x :: x :: q) = 0
theorem gS_lin_pre {f : List Ve → Int} {n c : Nat} (h : MA f n) (a : Int) (x y : Ve) (p : List Ve) : ∀ (l q : List Ve), (p ++ x :: q).length + l.length = n + 1 → gS f c (p ++ vlin a x y :: q) l = a * gS f c (p ++ x :: q) l + gS f c (p ++ y :: q) l
  | [], q, _ => by
    unfold gS
    omega
  | v :: post, q, hl => by
    have ih := gS_lin_pre (c := c) h a x y p post (q ++ [v]) (by
      simp only [List.length_append, List.length_cons, List.length_nil] at hl ⊢
      omega)
    have e := h.lin p (q ++ post) a x y (by
      simp only [List.length_append, List.length_cons] at hl ⊢
      omega)
    simp only [gS, List.append_assoc, List.cons_append] at ih ⊢
    rw [ih, e]
    grind
theorem gS_lin {f : List Ve → Int} {n c : Nat} (h : MA f n) (a : Int) (x y : Ve) (q : List Ve) : ∀ (p pre : List Ve), pre.length + (p ++ x :: q).length = n + 1 → gS f c pre (p ++ vlin a x y :: q) = a * gS f c pre (p ++ x :: q) + gS f c pre (p ++ y :: q)
  | [], pre, hl => by
    have e := gS_lin_pre (c := c) h a x y pre q [] (by
      simp only [List.length_append, List.length_cons, List.length_nil, List.nil_append] at hl ⊢
      omega)
    simp only [List.nil_append, gS]
    rw [e]
    unfold vlin
    grind
  | v :: p, pre, hl => by
    have ih := gS_lin (c := c) h a x y q p (pre ++ [v]) (by
      simp only [List.length_append, List.length_cons, List.length_nil] at hl ⊢
      omega)
    have e := h.lin (pre ++ p) q a x y (by
      simp only [List.length_append, List.length_cons] at hl ⊢
      omega)
    simp only [List.cons_append, gS]
    rw [ih, ← List.append_assoc, e, List.append_assoc, List.append_assoc]
    grind
theorem gS_alt_pre {f : List Ve → Int} {n c : Nat} (h : MA f n) (x : Ve) (p : List Ve) : ∀ (l q : List Ve), (p ++ x :: x :: q).length + l.length = n + 1 → gS f c (p ++ x :: x :: q) l = 0
  | [], q, _ => rfl
  | v :: post, q, hl => by
    have ih := gS_alt_pre (c := c) h x p post (q ++ [v]) (by
      simp only [List.length_append, List.length_cons, List.length_nil] at hl ⊢
      omega)
    have e := h.alt p (q ++ post) x (by
      simp only [List.length_append, List.length_cons] at hl ⊢
      omega)
    simp only [gS, List.append_assoc, List.cons_append] at ih ⊢
    rw [ih, e]
    omega
theorem gS_alt {f : List Ve → Int} {n c : Nat} (h : MA f n) (x : Ve) (q : List Ve) : ∀ (p pre : List Ve), pre.length + (p ++ x :: x :: q).length = n + 1 → gS f c pre (p ++ x :: x :: q) = 0
  | [], pre, hl => by
    have e := gS_alt_pre (c := c) h x pre q [] (by
      simp only [List.length_append, List.length_cons, List.length_nil, List.nil_append] at hl ⊢
      omega)
    have e' : pre ++ [x] ++ [x] = pre ++ x :: x :: [] := by rw [List.append_assoc]; rfl
    simp only [List.nil_append, gS]
    rw [e', e, List.append_assoc]
    show _ * f (pre ++ x :: q) - (_ * f (pre ++ x :: q) - 0) = 0
    omega
  | v :: p, pre, hl => by
    have ih := gS_alt (c := c) h x q p (pre ++ [v]) (by
      simp only [List.length_append, List.length_cons, List.length_nil] at hl ⊢
      omega)
    have e := h.alt (pre ++ p) q x (by
      simp only [List.length_append, List.length_cons] at hl ⊢
      omega)
    simp only [List.cons_append, gS]
    rw [ih, ← List.append_assoc, e]
    omega
theorem dt_ma : ∀ n c : Nat, MA (dt n c) n
  | 0, c => ⟨fun p q a x y h => by simp at h, fun p q x h => by simp at h⟩
  | n + 1, c => by
    have ih := dt_ma n (c + 1)
    exact ⟨fun p q a x y h => gS_lin ih a x y q p [] (by simpa using h), fun p q x h => gS_alt ih x q p [] (by simpa using h)⟩
theorem MA.swap {f : List Ve → Int} {n : Nat} (h : MA f n) (p q : List Ve) (x y : Ve) (hl : (p ++ x :: y :: q).length = n) : f (p ++ x :: y :: q) = - f (p ++ y :: x :: q) := by
  have l2 : ∀ u v : Ve, (p ++ u :: v :: q).length = n := fun u v => by
    simp only [List.length_append, List.length_cons] at hl ⊢
    exact hl
  have e0 := h.alt p q (vlin 1 x y) (l2 _ _)
  have e1 := h.lin p (vlin 1 x y :: q) 1 x y (l2 _ _)
  have two : ∀ u : Ve, f (p ++ u :: vlin 1 x y :: q) = 1 * f (p ++ u :: x :: q) + f (p ++ u :: y :: q) := fun u => by
    have := h.lin (p ++ [u]) q 1 x y (by rw [List.append_assoc]; exact l2 _ _)
    simp only [List.append_assoc, List.cons_append, List.nil_append] at this
    exact this
  have ax := h.alt p q x (l2 _ _)
  have ay := h.alt p q y (l2 _ _)
  rw [e0, two, two, ax, ay] at e1
  omega
theorem MA.rep {f : List Ve → Int} {n : Nat} (h : MA f n) (q : List Ve) (x : Ve) : ∀ (m p : List Ve), (p ++ x :: (m ++ x :: q)).length = n → f (p ++ x :: (m ++ x :: q)) = 0
  | [], p, hl => h.alt p q x hl
  | v :: m, p, hl => by
    have ih := MA.rep h q x m (p ++ [v]) (by
      simp only [List.length_append, List.length_cons, List.length_nil] at hl ⊢
      omega)
    have s := h.swap p (m ++ x :: q) x v hl
    simp only [List.append_assoc, List.cons_append, List.nil_append] at ih
    rw [List.cons_append, s, ih]
    rfl
theorem MA.same {f : List Ve → Int} {n : Nat} (h : MA f n) {l : List Ve} (hl : l.length = n) {i j : Nat} (hij : i < j) (hj : j < l.length) (e : l[i]'(by omega) = l[j]) : f l = 0 := by
  have d1 : l = l.take i ++ l[i]'(by omega) :: l.drop (i + 1) := by
    rw [← List.drop_eq_getElem_cons (by omega), List.take_append_drop]
  have d2 : l.drop (i + 1) = (l.drop (i + 1)).take (j - i - 1) ++ l[j] :: l.drop (j + 1) := by
    have : l[j] :: l.drop (j + 1) = (l.drop (i + 1)).drop (j - i - 1) := by
      rw [List.drop_drop, show i + 1 + (j - i - 1) = j by omega, ← List.drop_eq_getElem_cons hj]
    rw [this, List.take_append_drop]
  rw [d2] at d1
  rw [← e] at d1
  rw [d1]
  exact h.rep _ _ _ _ (by rw [← d1]; exact hl)
/-! ### by places -/
def upf (b : Nat → Ve) (i : Nat) (v : Ve) : Nat → Ve := fun j => if j = i then v else b j
def bl (N : Nat) (b : Nat → Ve) : List Ve := (List.range N).map b
def dF (N : Nat) (b : Nat → Ve) : Int := dt N 0 (bl N b)
theorem bl_len {N : Nat} {b : Nat → Ve} : (bl N b).length = N := by unfold bl; rw [List.length_map, List.length_range]
theorem bl_get {N : Nat} {b : Nat → Ve} {i : Nat} (h : i < (bl N b).length) : (bl N b)[i] = b i := by
  have h' : i < ((List.range N).map b).length := h
  have e : ((List.range N).map b)[i]'h' = b i := by rw [List.getElem_map, List.getElem_range]
  exact e
theorem bl_upf {N : Nat} {b : Nat → Ve} {i : Nat} {v : Ve} (h : i < N) : bl N (upf b i v) = (bl N b).take i ++ v :: (bl N b).drop (i + 1) := by
  have : bl N (upf b i v) = (bl N b).set i v := by
    refine List.ext_getElem (by rw [List.length_set, bl_len, bl_len]) fun j h1 h2 => ?_
    rw [bl_get, List.getElem_set, bl_get]
    unfold upf
    by_cases e : i = j
    · rw [if_pos e, if_pos e.symm]
    · rw [if_neg e, if_neg (Ne.symm e)]
  rw [this, List.set_eq_take_append_cons_drop, if_pos (by rw [bl_len]; exact h)]
theorem dF_lin {N : Nat} {b : Nat → Ve} {i : Nat} {a : Int} {x y : Ve} (h : i < N) : dF N (upf b i (vlin a x y)) = a * dF N (upf b i x) + dF N (upf b i y) := by
  unfold dF
  rw [bl_upf h, bl_upf h, bl_upf h]
  refine (dt_ma N 0).lin _ _ a x y ?_
  rw [← bl_upf h, bl_len]
theorem dF_same {N : Nat} {b : Nat → Ve} {i j : Nat} (hi : i < N) (hj : j < N) (n : i ≠ j) (e : b i = b j) : dF N b = 0 := by
  unfold dF
  by_cases h : i < j
  · exact (dt_ma N 0).same bl_len h (by rw [bl_len]; exact hj) (by rw [bl_get, bl_get, e])
  · exact (dt_ma N 0).same bl_len (show j < i by omega) (by rw [bl_len]; exact hi) (by rw [bl_get, bl_get, e])
theorem upf_self {b : Nat → Ve} {i : Nat} : upf b i (b i) = b := by
  funext j
  unfold upf
  split
  · rename_i e
    rw [e]
  · rfl
def swf (b : Nat → Ve) (i j : Nat) : Nat → Ve := upf (upf b i (b j)) j (b i)
theorem dF_swap {N : Nat} {b : Nat → Ve} {i j : Nat} (hi : i < N) (hj : j < N) (n : i ≠ j) : dF N (swf b i j) = - dF N b := by
  have cm : ∀ u v : Ve, upf (upf b i u) j v = upf (upf b j v) i u := fun u v => by
    funext t
    unfold upf
    by_cases e1 : t = j
    · by_cases e2 : t = i
      · exact absurd (e2.symm.trans e1) n
      · rw [if_pos e1, if_neg e2, if_pos e1]
    · rw [if_neg e1, if_neg e1]
  have al : ∀ u : Ve, dF N (upf (upf b i u) j u) = 0 := fun u => dF_same hi hj n (by
    unfold upf
    rw [if_neg n, if_pos rfl, if_pos rfl])
  have e0 := al (vlin 1 (b i) (b j))
  rw [dF_lin hj, cm, cm, dF_lin hi, dF_lin hi, ← cm, ← cm, ← cm, ← cm, al, al] at e0
  have s : upf (upf b i (b i)) j (b j) = b := by rw [upf_self, upf_self]
  rw [s] at e0
  unfold swf
  omega
end Vm
namespace Vm
open PySem L2 PySem.Spec PyProof.Rows
/-! ### whole equations solved without fractions: a basis changed place by place -/
structure GJ (N k : Nat) (A : Nat → Ve) (M : Nat → Nat → Int) (d s : Int) (b : Nat → Ve) : Prop where
  d0 : d ≠ 0
  s1 : s = 1 ∨ s = -1
  det : dF N b = s * d
  rel : ∀ j t, d * A j t = rs N fun i => M i j * b i t
  old : ∀ i, i < k → b i = A i
def swI (k p i : Nat) : Nat := if i = k then p else if i = p then k else i
theorem rs_swI {N k p : Nat} (hk : k < N) (hp : p < N) (f : Nat → Int) : (rs N fun i => f (swI k p i)) = rs N f := by
  by_cases e : k = p
  · subst e
    refine rs_congr fun i _ => ?_
    unfold swI
    by_cases q : i = k
    · rw [if_pos q, q]
    · rw [if_neg q, if_neg q]
  have u1 := rs_upd (f := f) (j := k) (p := f p - f k) N
  have u2 := rs_upd (f := fun i => if i = k then f i + (f p - f k) else f i) (j := p) (p := f k - f p) N
  rw [if_pos hk] at u1
  rw [if_pos hp, u1] at u2
  have : (rs N fun i => f (swI k p i)) = rs N fun b => if b = p then (if b = k then f b + (f p - f k) else f b) + (f k - f p) else if b = k then f b + (f p - f k) else f b := rs_congr fun i _ => by
    unfold swI
    by_cases q : i = k
    · subst q
      rw [if_pos rfl, if_neg e, if_pos rfl]
      omega
    · rw [if_neg q]
      by_cases q2 : i = p
      · subst q2
        rw [if_pos rfl, if_pos rfl, if_neg q]
        omega
      · rw [if_neg q2, if_neg q2, if_neg q]
  rw [this, u2]
  omega
theorem swf_at {b : Nat → Ve} {k p i : Nat} : swf b k p i = b (swI k p i) := by
  unfold swf upf swI
  by_cases q : i = p
  · by_cases q2 : i = k
    · rw [if_pos q, if_pos q2, ← q, ← q2]
    · rw [if_pos q, if_neg q2, if_pos q]
  · rw [if_neg q]
    by_cases q2 : i = k
    · rw [if_pos q2, if_pos q2]
    · rw [if_neg q2, if_neg q2, if_neg q]
theorem GJ.swap {N k p : Nat} {A : Nat → Ve} {M : Nat → Nat → Int} {d s : Int} {b : Nat → Ve} (h : GJ N k A M d s b) (hk : k ≤ p) (hp : p < N) : ∃ s', GJ N k A (fun i j => M (swI k p i) j) d s' (swf b k p) := by
  have hkN : k < N := by omega
  have rel : ∀ j t, d * A j t = rs N fun i => M (swI k p i) j * swf b k p i t := fun j t => by
    rw [h.rel, ← rs_swI hkN hp]
    exact rs_congr fun i _ => by rw [swf_at]
  have old : ∀ i, i < k → swf b k p i = A i := fun i hi => by
    rw [swf_at]
    unfold swI
    rw [if_neg (by omega), if_neg (by omega)]
    exact h.old i hi
  by_cases e : k = p
  · subst e
    refine ⟨s, h.d0, h.s1, ?_, rel, old⟩
    rw [show swf b k k = b by unfold swf; rw [upf_self, upf_self]]
    exact h.det
  · refine ⟨-s, h.d0, ?_, ?_, rel, old⟩
    · rcases h.s1 with q | q <;> omega
    · rw [dF_swap hkN hp e, h.det, Int.neg_mul]
/-! ### how great a determinant is -/
end Vm
namespace Vm
open PySem L2 PySem.Spec PyProof.Rows
/-! ### the chain of loads: a ball leaves by chance, one comes by a rule -/
/-- all loads of a kind -/
structure LdA (n b : Nat) (ks : List (List Int)) : Prop where
  nd : ks.Nodup
  iff : ∀ k, k ∈ ks ↔ Ld n (b : Int) k
section
variable {n b : Nat} {us : List Int} {ks : List (List Int)}
theorem LdA.at (A : LdA n b ks) {a : Nat} (h : a < ks.length) : Ld n (b : Int) (ks.getD a []) := by
  refine (A.iff _).mp ?_
  rw [List.getD_eq_getElem?_getD, List.getElem?_eq_getElem h]
  exact List.getElem_mem h
end
end Vm
namespace Vm
open PySem L2 PySem.Spec PyProof.Rows
/-! ### a ball leaves and one comes: sums over all events -/
def hF (h : List Int → Int) (F : List (List Int × Int)) : List (List Int × Int) := F.map fun p => (p.1, h p.1 * p.2)
/-! ### a common bottom, of any size -/
end Vm
namespace Vm
open PySem L2 PySem.Spec PyProof.Rows
/-! ### a spread by the law's own look -/
theorem wt_memF {F : List (List Int × Int)} (nd : (keys F).Nodup) {p : List Int × Int} (hp : p ∈ F) : wt F p.1 = p.2 := by
  unfold wt
  induction F with
  | nil => cases hp
  | cons q F ih =>
    have nd' := List.nodup_cons.mp (show (q.1 :: keys F).Nodup from nd)
    rw [aget_cons]
    rcases List.mem_cons.mp hp with rfl | hp
    · rw [if_pos rfl]
      rfl
    · rw [if_neg fun z => nd'.1 (by rw [z]; exact List.mem_map.mpr ⟨p, hp, rfl⟩)]
      exact ih nd'.2 hp
theorem SpH.nd {K n b : Nat} {F : List (List Int × Int)} {W : Int} (h : SpH K n b F W) : (keys F).Nodup := h.pw.imp fun q e => by
  rw [e] at q
  exact List.lt_irrefl _ q
theorem SpH.sw {K n b : Nat} {F : List (List Int × Int)} {W : Int} (h : SpH K n b F W) : SW n b F := by
  refine ⟨h.nd, fun z => h.ne ?_, fun k hk => ?_, fun k hk => ?_⟩
  · have : F.map (·.1) = [] := z
    exact List.map_eq_nil_iff.mp this
  · obtain ⟨p, hp, rfl⟩ := List.mem_map.mp hk
    have : wt F p.1 = p.2 := wt_memF h.nd hp
    rw [this]
    exact (h.w p hp).1
  · obtain ⟨p, hp, rfl⟩ := List.mem_map.mp hk
    exact h.ld p hp
end Vm
namespace PySem.W
open Lean Elab Tactic Meta PySem PySem.Calls PyProof.Rows PyProof.V PySem.Spec
end PySem.W
namespace Vm
open PySem L2 PySem.Spec PyProof.Rows
/-! ### what steady tells, all of it -/
theorem SW.all {n b : Nat} {F : List (List Int × Int)} {ks : List (List Int)} (h : SW n b F) (A : LdA n b ks) : F.length ≤ ks.length := by
  have := nodup_len (ys := ks) h.nd fun k hk => (A.iff k).mpr (h.ld k hk)
  unfold keys at this
  rw [List.length_map] at this
  exact this
end Vm
namespace L2
open PySem PySem.Spec PyProof.Rows
/-! ### set(list of ints) -/
end L2
namespace Vm
open PySem L2 PySem.Spec PyProof.Rows
/-! ### x = []; for t in range(n): x.append(a list just made): a table -/
def thenO (cr : CS) : Out → Out
  | .nx s1 => cr s1
  | o => o
end Vm
namespace Vm
open PySem L2 PySem.Spec PyProof.Rows
/-! ### texts -/
/-! str(n), int(text) -/
/-! a sign in a text -/
/-! a text so many times, none or one -/
section
variable {X : Cx} {ec : EC} {W : WX}
/-! the signs of a text, one behind another -/
/-! slices of texts -/
def opSlS : Od → Option Int → Option Int → Option Rv
  | .d (.str z), lo, hi => if z.length ≤ 16000000 then some (.d (.str (cutS z lo hi))) else none
  | _, _, _ => none
def cSlS (c : CE) (lo hi : S → R (Option Int)) : CE := fun s => (cv c s).bind fun a s1 => (lo s1).bind fun l s2 => (hi s2).bind fun u s3 => opt (a.od s3.m) fun o => opt (opSlS o l u) fun rv => .ok rv s3
/-! methods of texts -/
def cMs (f : Str → Od → Option Rv) (co c : CE) : CE := fun s => (cv co s).bind fun x s1 => match x with
  | .d (.str a) => (cv c s1).bind fun y s2 => opt (y.od s2.m) fun o => opt (f a o) fun rv => .ok rv s2
  | _ => .bad
end
end Vm
namespace Vm
open PySem L2 PySem.Spec PyProof.Rows TL
/-! ### whole numbers as texts -/
@[simp] theorem opEq_str {a b : Str} : opEq (.d (.str a)) (.d (.str b)) = some (.d (.bool (decide (a = b)))) := by
  have e : PyData.eqv (.str a) (.str b) = decide (a = b) := by
    show (a == b) = decide (a = b)
    by_cases h : a = b
    · subst h
      simp
    · rw [decide_eq_false h]
      exact beq_eq_false_iff_ne.mpr h
  show some (Rv.d (.bool (PyData.eqv (.str a) (.str b)))) = _
  rw [e]
@[simp] theorem opNe_str {a b : Str} : opNe (.d (.str a)) (.d (.str b)) = some (.d (.bool (!decide (a = b)))) := by
  have e : PyData.eqv (.str a) (.str b) = decide (a = b) := by
    show (a == b) = decide (a = b)
    by_cases h : a = b
    · subst h
      simp
    · rw [decide_eq_false h]
      exact beq_eq_false_iff_ne.mpr h
  show some (Rv.d (.bool (!PyData.eqv (.str a) (.str b)))) = _
  rw [e]
@[simp] theorem cMs_s {f : Str → Od → Option Rv} {co c : CE} {s s1 s2 : S} {a : Str} {y : D} {rv : Rv} (h1 : cv co s = .ok (.d (.str a)) s1) (h2 : cv c s1 = .ok (.d y) s2) (h3 : f a (.d y) = some rv) : cMs f co c s = .ok rv s2 := by
  unfold cMs
  rw [h1]
  show (cv c s1).bind _ = _
  rw [h2]
  show opt (f a (.d y)) _ = _
  rw [h3]
  rfl
/-! ### the program's reader of numbers -/
@[simp] theorem cSlS_s {c : CE} {lo hi : S → R (Option Int)} {s : S} : cSlS c lo hi s = (cv c s).bind fun a s1 => (lo s1).bind fun l s2 => (hi s2).bind fun u s3 => opt (a.od s3.m) fun o => opt (opSlS o l u) fun rv => .ok rv s3 := Eq.trans rfl rfl
/-! ### shares -/
end Vm
namespace Vm
open PySem L2 PySem.Spec PyProof.Rows
/-! ### a def whose cells stay -/
/-! ### objects: their fields -/
/-- what is known of a class: which attributes it has not of itself -/
structure ClsF (K : Fg) (mg : Str → Option Value) (ec : EC) (C : String) (fs : List Str) : Prop where
  c : L2.Cls K (ec.f C)
  g : mg (Str.ofString C) = some (.ref (ec.f C))
  n : ∀ f, f ∈ fs → NoAttr K (ec.f C) f
theorem fd_lookup {K : Fg} {G : Hp} {r : List Addr} {t : Nat} {f : Str} : ∀ {vs : List (Str × V)} {fs : List (Str × El)} {el : El}, Paired (FdR K G) vs fs → Paired (FdC r t) vs fs → fs.lookup f = some el → ∃ v, vs.lookup f = some v ∧ ElOk K G r v el
  | _, _, _, .nil, _, h => by cases h
  | (a, v) :: vs, (b, e) :: fs, el, .cons h1 t1, .cons h2 t2, h => by
    have ab : a = b := h1.1
    subst ab
    cases q : (f == a) with
    | true =>
      rw [List.lookup, q] at h ⊢
      cases h
      refine ⟨v, rfl, ?_⟩
      cases e with
      | d x => exact h1.2
      | c k =>
        obtain ⟨_, p, e1, e2⟩ := h2 k rfl
        exact ⟨p, e1, e2⟩
      | p us => exact h1.2.elim
    | false =>
      rw [List.lookup, q] at h ⊢
      exact fd_lookup t1 t2 h
theorem fd_none {K : Fg} {G : Hp} {f : Str} : ∀ {vs : List (Str × V)} {fs : List (Str × El)}, Paired (FdR K G) vs fs → fs.lookup f = none → vs.lookup f = none
  | _, _, .nil, _ => rfl
  | (a, v) :: vs, (b, e) :: fs, .cons h1 t1, h => by
    have ab : a = b := h1.1
    subst ab
    cases q : (f == a) with
    | true =>
      rw [List.lookup, q] at h
      cases h
    | false =>
      rw [List.lookup, q] at h ⊢
      exact fd_none t1 h
def elRv : El → Rv
  | .d x => .d x
  | .c k => .ref k
  | .p us => .t true (us.map E0.el)
/-- what stands at an object's cell -/
theorem obj_at {ec : EC} {K : Fg} {w : Wd} {m : List Cell} {n : Nat} {p : Addr} {C : String} {fs : List (Str × El)} (hm : Mem ec K w m) (hp : w.r[n]? = some p) (h : m[n]? = some (.g (.o C fs))) : ∃ dx vs, w.G p = none ∧ w.H p = some (.ins (ec.f C) dx vs) ∧ Paired (FdR K w.G) vs fs ∧ Paired (FdC w.r n) vs fs := by
  obtain ⟨g0, o, ho, C', dx, vs, rfl, fr⟩ := hm.cell n p _ hp h
  obtain ⟨dx', vs', h', fc⟩ := hm.nv.1.2 n p _ hp h
  rw [ho] at h'
  cases h'
  exact ⟨dx, vs, g0, ho, fr, fc⟩
/-- o.f -/
def cFld (C : String) (f : Str) (co : CE) : CE := fun s => (cv co s).bind fun a s1 => match a with
  | .ref n => match s1.m[n]? with
    | some (.g (.o C' fs)) => if C' = C then (match fs.lookup f with
      | some el => .ok (elRv el) s1
      | none => .bad) else .bad
    | _ => .bad
  | _ => .bad
/-- o.f = c, data -/
def putEl (f : Str) (el : El) : List (Str × El) → List (Str × El)
  | [] => [(f, el)]
  | (g, x) :: r => if g = f then (g, el) :: r else (g, x) :: putEl f el r
def cFldPut (C : String) (f : Str) (co c : CE) : CS := fun s => (cv c s).out fun y s1 => (cv co s1).out fun a s2 => match y, a with
  | .d x, .ref n => match s2.m[n]? with
    | some (.g (.o C' fs)) => if C' = C ∧ fs.length < 1000 then .nx ⟨s2.v, s2.m.set n (.g (.o C (putEl f (.d x) fs)))⟩ else .bad
    | _ => .bad
  | _, _ => .bad
theorem put_R {K : Fg} {G : Hp} {f : Str} {v : V} {x : D} (h : Rp K G v x) : ∀ {vs : List (Str × V)} {fs : List (Str × El)}, Paired (FdR K G) vs fs → Paired (FdR K G) (putF f v vs) (putEl f (.d x) fs)
  | _, _, .nil => .cons ⟨rfl, h⟩ .nil
  | (a, u) :: vs, (b, e) :: fs, .cons h1 t1 => by
    have ab : a = b := h1.1
    subst ab
    show Paired _ (if a = f then (a, v) :: vs else (a, u) :: putF f v vs) (if a = f then (a, .d x) :: fs else (a, e) :: putEl f (.d x) fs)
    by_cases q : a = f
    · rw [if_pos q, if_pos q]
      exact .cons ⟨rfl, h⟩ t1
    · rw [if_neg q, if_neg q]
      exact .cons h1 (put_R h t1)
theorem put_C {K : Fg} {G : Hp} {r : List Addr} {t : Nat} {f : Str} {v : V} {x : D} : ∀ {vs : List (Str × V)} {fs : List (Str × El)}, Paired (FdR K G) vs fs → Paired (FdC r t) vs fs → Paired (FdC r t) (putF f v vs) (putEl f (.d x) fs)
  | _, _, .nil, _ => .cons (fun k z => by cases z) .nil
  | (a, u) :: vs, (b, e) :: fs, .cons h1 t1, .cons h2 t2 => by
    have ab : a = b := h1.1
    subst ab
    show Paired _ (if a = f then (a, v) :: vs else (a, u) :: putF f v vs) (if a = f then (a, .d x) :: fs else (a, e) :: putEl f (.d x) fs)
    by_cases q : a = f
    · rw [if_pos q, if_pos q]
      exact .cons (fun k z => by cases z) t2
    · rw [if_neg q, if_neg q]
      exact .cons h2 (put_C t1 t2)
section
variable {X : Cx} {ec : EC} {W : WX}
theorem e_fld {C : String} {f : Str} {fs0 : List Str} {o : Expr} {co : CE} {pos : Pos} (c : ClsF X.K X.mg ec C fs0) (ho : Ex X ec W o co) (hf : f ∈ fs0 := by decide) (hb : attributeBase o f X.env (eval o X.env) = eval o X.env := by rfl) : Ex X ec W (.Attribute o f pos) (cFld C f co) :=
  (pe_fld ho hb).imp fun σ H Q h => by
    obtain ⟨w, s, rfl, hr, h⟩ := h
    unfold cFld at h
    refine run_cv hr h fun x w1 s1 a le1 hr1 ha hn h1 => ?_
    cases a with
    | d y => exact h1.elim
    | new c => exact h1.elim
    | t _ _ => exact h1.elim
    | ref n =>
      obtain ⟨p, rfl, hp⟩ := ha
      dsimp only at h1
      split at h1
      · rename_i C' fs hm
        split at h1
        · rename_i hC
          subst hC
          split at h1
          · rename_i el hl
            obtain ⟨dx, vs, g0, ho, fr, fc⟩ := obj_at hr1.mem hp hm
            obtain ⟨v, hv, eo⟩ := fd_lookup fr fc hl
            refine ⟨p, ec.f C', dx, vs, v, rfl, ho, c.c, c.n f hf, hv, ?_⟩
            cases el with
            | d y => exact h1 v w1 le1 hr1 eo .d
            | c k => exact h1 v w1 le1 hr1 eo .ref
            | p us =>
              obtain ⟨a2, vs2, e1, e2, e3⟩ := eo
              exact h1 v w1 le1 hr1 ⟨a2, vs2, e1, e2, paired_el e3⟩ .t
          · exact h1.elim
        · exact h1.elim
      · exact h1.elim
/-- an object's fields are written -/
theorem obj_set {K : Fg} {w : Wd} {σ : L2.St} {s : S} {n : Nat} {p : Addr} {C : String} {dx : Addr} {fs fs' : List (Str × El)} {vs vs' : List (Str × V)} (r : Rel ec K w σ s) (hn : w.r[n]? = some p) (hg : w.G p = none) (hm : s.m[n]? = some (.g (.o C fs))) (ho : w.H p = some (.ins (ec.f C) dx vs))
    (fr : Paired (FdR K w.G) vs' fs') (fc : Paired (FdC w.r n) vs' fs') :
    Rel ec K ⟨w.G, w.r, w.F, upd w.H p (.ins (ec.f C) dx vs')⟩ σ ⟨s.v, s.m.set n (.g (.o C fs'))⟩ ∧ Le w ⟨w.G, w.r, w.F, upd w.H p (.ins (ec.f C) dx vs')⟩ := by
  have hnm : n < s.m.length := (List.getElem?_eq_some_iff.mp hm).1
  refine cell_setN (c := .g (.o C fs')) (o := .ins (ec.f C) dx vs') r hn hg ⟨hg, _, upd_same, _, _, _, rfl, fr⟩ ⟨⟨fun t q n0 j ds e1 e2 => ?_, fun t q x e1 e2 => ?_⟩, fun q hq => ?_⟩ fun _ _ z => by
    rw [ho] at z
    cases z
  · have ne : n ≠ t := fun z => by
      subst z
      rw [List.getElem?_set_self hnm] at e2
      cases e2
    rw [List.getElem?_set_ne ne] at e2
    obtain ⟨h1, h2⟩ := r.mem.nv.1.1 t q n0 j ds e1 e2
    refine ⟨h1, fun p' ks e3 e4 => ?_⟩
    have ne2 : n ≠ n0 := fun z => by
      subst z
      rw [List.getElem?_set_self hnm] at e4
      cases e4
    rw [List.getElem?_set_ne ne2] at e4
    obtain ⟨ws, k, e5, e6⟩ := h2 p' ks e3 e4
    refine ⟨ws, k, ?_, e6⟩
    have hp : p' ≠ p := fun z => ne2 (nd_ix r.mem.nd hn (z ▸ e3))
    show upd w.H p _ p' = _
    rw [upd_ne hp]
    exact e5
  · by_cases ne : n = t
    · subst ne
      rw [List.getElem?_set_self hnm] at e2
      cases e2
      have e1 : w.r[n]? = some q := e1
      rw [hn] at e1
      cases e1
      exact ⟨dx, vs', upd_same, fc⟩
    · rw [List.getElem?_set_ne ne] at e2
      have hq : q ≠ p := fun z => ne (nd_ix r.mem.nd hn (z ▸ e1))
      refine (r.mem.nv.1.2 t q x e1 e2).mono (fun _ _ _ z => z) fun _ _ z => ?_
      show upd w.H p _ q = _
      rw [upd_ne hq]
      exact z
  · have hq' : q ≠ p := fun z => (r.mem.fo q hq).2.1 (z ▸ List.mem_of_getElem? hn)
    rcases r.mem.nv.2 q hq with z | ⟨u, e, z⟩
    · exact .inl z
    · refine .inr ⟨u, ?_, z⟩
      show upd w.H p _ q = _
      rw [upd_ne hq']
      exact e
theorem s_fld {C : String} {f : Str} {fs0 : List Str} {o e : Expr} {co ce : CE} {pos pos' : Pos} (c : ClsF X.K X.mg ec C fs0) (ho : Ex X ec W o co) (he : Ex X ec W e ce) (hf : f ∈ fs0 := by decide) (hs : swapsWith e (some (.Attribute o f pos')) pos.line X.env = pure false := by rfl) : Sx X ec W (.Assign [.Attribute o f pos'] e pos) (cFldPut C f co ce) :=
  (ps_fld ho he hs).imp fun D σ H h => by
    obtain ⟨w, s, rfl, hr, h⟩ := h
    refine run_ev hr h fun xv w1 s1 v le1 r1 o1 hn1 h1 => ?_
    refine run_ev r1 (h1.le le1) fun xo w2 s2 o le2 r2 o2 hn2 h2 => ?_
    cases v with
    | new _ => exact h2.elim
    | t _ _ => exact h2.elim
    | ref _ => exact h2.elim
    | d y =>
      cases o with
      | new _ => exact h2.elim
      | t _ _ => exact h2.elim
      | d _ => exact h2.elim
      | ref n =>
        obtain ⟨p, rfl, hp⟩ := o2
        dsimp only at h2
        split at h2
        · rename_i C' fs hm
          split at h2
          · rename_i hC
            obtain ⟨hC, hl⟩ := hC
            subst hC
            obtain ⟨dx, vs, g0, ho, fr, fc⟩ := obj_at r2.mem hp hm
            have ry : Rp X.K w2.G xv y := Rp.mono le2.g _ _ o1
            obtain ⟨r3, le3⟩ := obj_set r2 hp g0 hm ho (put_R (f := f) ry fr) (put_C (f := f) (v := xv) (x := y) fr fc)
            exact ⟨p, ec.f C', dx, vs, rfl, ho, c.c, c.n f hf, by rw [paired_len fr]; exact hl, h2 σ _ (le2.trans le3) r3⟩
          · exact h2.elim
        · exact h2.elim
/-! ### methods -/
def tMethS (C : Addr) (m : Str) (sp : Sp) (E : L2.St → XK) (ta : TE) (t : TA) : TE := fun σ H Q => ta σ H fun x H1 => ∃ a dx fs, x = .ref a ∧ H1 a = some (.ins C dx fs) ∧ fs.lookup m = none ∧ t σ H1 fun vs H2 => sp (x :: vs) H2 Q (E σ)
theorem pe_methG {k : Nat} {C f : Addr} {fd : FuncData} {ps : List Str} {sp : Sp} {E : L2.St → XK} {m : Str} {apos pos : Pos} {o e : Expr} {es : List Expr} {ta : TE} {t : TA} {pl : Sem Bool} (he : PE X o ta) (c : L2.Cls X.K C) (hm : Meth X.K C m f) (F : FnG X.prog X.w X.K X.mg X.base k f fd ps sp) (hr : Rg k X.A) (bi : Binds X.K fd ps []) (px : ∀ σ, PassesAt (L2.CX X.prog X.w) X σ (E σ)) (ha : PA X (e :: es) t)
    (hst : starEach (e :: es) X.env = (false, eval e X.env) :: starEach es X.env) (hpl : (backTo pos (starEach es X.env)).any (·.1) = false)
    (ht : eval (.Call (.Attribute o m apos) (e :: es) [] pos) X.env = (do
      let ov ← eval o X.env
      standAt apos.atName
      let (f, first) ← holding [ov] (getMethod ov m pl)
      callWith pos f first (backTo pos (starEach (e :: es) X.env)) (backToKw pos (keywordEach [] X.env)))) :
    PE X (.Call (.Attribute o m apos) (e :: es) [] pos) (tMethS C m sp E ta t) := by
  refine ⟨fun pins s σ H Q I h => ?_⟩
  refine PySem.W.methodCall_KW (pl := pl) (thn (he.run pins s σ H _ I h) fun u s1 ⟨x, H1, I1, rx, a, dx, fs, ex, ea, l, q⟩ => ?_) ht
  subst ex
  obtain rfl : u = Value.ref a := rx
  refine getmeth_ok I1 ea c hm l ?_
  refine PySem.W.callWith_K (first := [.ref a]) (h₀ := X.base) I.ok.mod.kin hm.kp (thn (ha.run pos pins s1 σ H1 _ I1 q) fun us s2 ⟨vs, H2, I2, r, q2⟩ => ⟨I2.kIn, ?_⟩) hst hpl
  exact run_fnG (us := .ref a :: us) (vs := .ref a :: vs) F hr bi (px σ) I2 (.cons rfl r) q2
theorem pe_methG0 {k : Nat} {C f : Addr} {fd : FuncData} {ps : List Str} {sp : Sp} {E : L2.St → XK} {m : Str} {apos pos : Pos} {o : Expr} {ta : TE} {pl : Sem Bool} (he : PE X o ta) (c : L2.Cls X.K C) (hm : Meth X.K C m f) (F : FnG X.prog X.w X.K X.mg X.base k f fd ps sp) (hr : Rg k X.A) (bi : Binds X.K fd ps []) (px : ∀ σ, PassesAt (L2.CX X.prog X.w) X σ (E σ))
    (ht : eval (.Call (.Attribute o m apos) [] [] pos) X.env = (do
      let ov ← eval o X.env
      standAt apos.atName
      let (f, first) ← holding [ov] (getMethod ov m pl)
      callWith pos f first (backTo pos (starEach [] X.env)) (backToKw pos (keywordEach [] X.env)))) :
    PE X (.Call (.Attribute o m apos) [] [] pos) (tMethS C m sp E ta tNil) := by
  refine ⟨fun pins s σ H Q I h => ?_⟩
  refine PySem.W.methodCall_KW (pl := pl) (thn (he.run pins s σ H _ I h) fun u s1 ⟨x, H1, I1, rx, a, dx, fs, ex, ea, l, q⟩ => ?_) ht
  subst ex
  obtain rfl : u = Value.ref a := rx
  refine getmeth_ok I1 ea c hm l ?_
  exact PySem.W.callWith_K0 (first := [.ref a]) I1.kIn hm.kp (run_fnG (us := [.ref a]) (vs := [.ref a]) F hr bi (px σ) I1 (.cons rfl .nil) q)
/-- a method as a function of its object's cell and what it is handed -/
def CalM (P : Program) (wo : World) (K : Fg) (mg : Str → Option Value) (base : Heap) (ec : EC) (C : String) (m : Str) (ps : List Str) (f : Fn) (k : Nat) : Prop :=
  ∃ fa fd oc od osl, K.lookup fa = some ⟨oc, od, .func fd, osl⟩ ∧ FnG P wo K mg base k fa fd ps (spF K ec ps.length f) ∧ Meth K (ec.f C) m fa ∧ Binds K fd ps []
def cMeth (C : String) (m : Str) (f : Fn) (co : CE) (cl : CL) : CE := fun s => (cv co s).bind fun a s1 => match a with
  | .ref n => match s1.m[n]? with
    | some (.g (.o C' fs)) => if C' = C ∧ (fs.lookup m).isNone = true then (cl s1).bind fun as s2 => (f (.c n :: as) s2.m).toR s2.v else .bad
    | _ => .bad
  | _ => .bad
theorem meth_rd {k n : Nat} {fa : Addr} {fd : FuncData} {ps : List Str} {f : Fn} {C : String} {m : Str} {co : CE} {cl : CL} {σ : L2.St} {H : Hp} {Q : VK} (hl : LLen n cl) (hn : ps.length = n + 1) (h : rd X.K ec W (cMeth C m f co cl) σ H Q) :
    tMethS (ec.f C) m (spF X.K ec ps.length f) (fun σ cls d H => W cls d σ H) (rd X.K ec W co) (rdL X.K ec W cl) σ H Q := by
  obtain ⟨w, s, rfl, hr, h⟩ := h
  unfold cMeth at h
  refine run_cv hr h fun x w1 s1 a le1 hr1 ha hn1 h1 => ?_
  cases a with
  | d y => exact h1.elim
  | new c => exact h1.elim
  | t _ _ => exact h1.elim
  | ref q =>
    obtain ⟨p, rfl, hp⟩ := ha
    dsimp only at h1
    split at h1
    · rename_i C' fs hm
      split at h1
      · rename_i hC
        obtain ⟨hC, hnone⟩ := hC
        subst hC
        obtain ⟨dx, vs, g0, ho, fr, fc⟩ := obj_at hr1.mem hp hm
        refine ⟨p, dx, vs, rfl, ho, fd_none fr (by simpa using hnone), w1, s1, rfl, hr1, ?_⟩
        cases e1 : cl s1 with
        | bad => rw [e1] at h1; exact h1
        | ex e s' =>
          rw [e1] at h1
          exact fun w' le r => h1 w' (le1.trans le) r
        | ok as s2 =>
          rw [e1] at h1
          intro us w2 le2 r2 ao
          have h2 : Res (okV ec X.K w σ Q) (okE X.K ec W σ w) ((f (.c q :: as) s2.m).toR s2.v) := h1
          have hp2 := le2.cell hp
          refine ⟨by rw [List.length_cons, paired_len ao, hl _ _ _ e1, hn], w2, s2.m, .c q :: as, rfl, r2.mem, .cons ⟨p, rfl, hp2⟩ ao, ?_⟩
          cases e2 : f (.c q :: as) s2.m with
          | bad => rw [e2] at h2; exact h2
          | ex e m' =>
            rw [e2] at h2
            exact fun w3 le3 m3 => h2 w3 ((le1.trans le2).trans le3) (rel_mem le3 r2 m3)
          | ok a m' =>
            rw [e2] at h2
            exact fun x w3 le3 m3 o fr => h2 x w3 ((le1.trans le2).trans le3) (rel_mem le3 r2 m3) o (fr.back (le1.trans le2) le3 o)
      · exact h1.elim
    · exact h1.elim
theorem e_meth {k n : Nat} {C : String} {fs0 ps : List Str} {f : Fn} {m : Str} {apos pos : Pos} {o e : Expr} {es : List Expr} {co : CE} {cl : CL} {pl : Sem Bool} (c : ClsF X.K X.mg ec C fs0) (M : CalM X.prog X.w X.K X.mg X.base ec C m ps f k) (hr : Rg k X.A) (tk : Takes X W) (ho : Ex X ec W o co) (ha : PA X (e :: es) (rdL X.K ec W cl)) (hl : LLen n cl) (hn : ps.length = n + 1 := by rfl)
    (hst : starEach (e :: es) X.env = (false, eval e X.env) :: starEach es X.env := by rfl) (hpl : (backTo pos (starEach es X.env)).any (·.1) = false := by rfl)
    (ht : eval (.Call (.Attribute o m apos) (e :: es) [] pos) X.env = (do
      let ov ← eval o X.env
      standAt apos.atName
      let (f, first) ← holding [ov] (getMethod ov m pl)
      callWith pos f first (backTo pos (starEach (e :: es) X.env)) (backToKw pos (keywordEach [] X.env))) := by rfl) : Ex X ec W (.Call (.Attribute o m apos) (e :: es) [] pos) (cMeth C m f co cl) := by
  obtain ⟨fa, fd, oc, od, osl, lk, F, hm, hb⟩ := M
  exact (pe_methG ho c.c hm F hr hb (fun σ => passAt tk σ) ha hst hpl ht).imp fun σ H Q h => meth_rd (k := k) (fa := fa) (fd := fd) hl hn h
theorem e_meth0 {k : Nat} {C : String} {fs0 ps : List Str} {f : Fn} {m : Str} {apos pos : Pos} {o : Expr} {co : CE} {pl : Sem Bool} (c : ClsF X.K X.mg ec C fs0) (M : CalM X.prog X.w X.K X.mg X.base ec C m ps f k) (hr : Rg k X.A) (tk : Takes X W) (ho : Ex X ec W o co) (hn : ps.length = 1 := by rfl)
    (ht : eval (.Call (.Attribute o m apos) [] [] pos) X.env = (do
      let ov ← eval o X.env
      standAt apos.atName
      let (f, first) ← holding [ov] (getMethod ov m pl)
      callWith pos f first (backTo pos (starEach [] X.env)) (backToKw pos (keywordEach [] X.env))) := by rfl) : Ex X ec W (.Call (.Attribute o m apos) [] [] pos) (cMeth C m f co lNil) := by
  obtain ⟨fa, fd, oc, od, osl, lk, F, hm, hb⟩ := M
  exact (pe_methG0 ho c.c hm F hr hb (fun σ => passAt tk σ) ht).imp fun σ H Q h => by
    have q := meth_rd (k := k) (fa := fa) (fd := fd) (n := 0) (cl := lNil) (fun _ _ _ e => by cases e; rfl) hn h
    obtain ⟨w, s, e, r, q⟩ := q
    refine ⟨w, s, e, r, Res.mono q (fun a s' z x w' le r' o f => ?_) fun _ _ z => z⟩
    obtain ⟨p, dx, fs, e1, e2, e3, w2, s2, e4, r2, q2⟩ := z x w' le r' o f
    refine ⟨p, dx, fs, e1, e2, e3, ?_⟩
    have q3 := q2 [] w2 (Le.refl _) r2 .nil
    rw [e4] at q3
    exact q3
end
end Vm
namespace Vm
open PySem L2 PySem.Spec PyProof.Rows
/-! ### a dict is walked while it stays a cell -/
section
variable {X : Cx} {ec : EC} {W : WX}
/-- a walked dict becomes a dict again -/
theorem cell_back {K : Fg} {w0 w : Wd} {σ : L2.St} {s : S} {n : Nat} {p : Addr} {od : Obj} {ws : List (L2.Key × V)} {kvs : List (L2.Key × D)} (i0 : Le ec.w (w0.f ec.w.F)) (le0 : Le w0 w) (h0 : w0.H p = some (.dK ws)) (r : Rel ec K w σ s) (hn : w.r[n]? = some p) (hn0 : p ∈ w0.r) (hg : w.G p = none) (hz : w.H p = some (.frz od (.dK ws))) (hk : KvAll K w.G ws kvs) :
    Rel ec K ⟨w.G, w.r, w.F, upd w.H p (.dK ws)⟩ σ ⟨s.v, s.m.set n (.k kvs)⟩ ∧ Le w0 ⟨w.G, w.r, w.F, upd w.H p (.dK ws)⟩ := by
  have le : Le w0 ⟨w.G, w.r, w.F, upd w.H p (.dK ws)⟩ := ⟨le0.g, fun a o e na => by
    obtain ⟨o', e1, q⟩ := le0.k a o e na
    have hne : a ≠ p := fun z => by
      subst z
      exact na hn0
    exact ⟨o', by show upd w.H p _ a = _; rw [upd_ne hne]; exact e1, q⟩, le0.p, le0.f, le0.s, fun a od' u e => by
    have ne : a ≠ p := fun z => by
      subst z
      rw [h0] at e
      cases e
    show upd w.H p _ a = _
    rw [upd_ne ne]
    exact le0.z a od' u e⟩
  refine ⟨⟨⟨fun b u e => ?_, by show w.r.length = (s.m.set n _).length; rw [List.length_set]; exact r.mem.len, r.mem.nd, fun k q c' h1 h2 => ?_, fun q hq => ?_, r.mem.tab.put hz (fun _ z => by cases z) (noX_of fun _ z => by cases z).1, i0.trans (le.ch _), r.mem.gt, nv_set r.mem.nd r.mem.len hn (fun q hq z => (r.mem.fo q hq).2.1 (z ▸ List.mem_of_getElem? hn)) rfl r.mem.nv⟩, r.len, fun i sl e => ?_⟩, le⟩
  · show upd w.H p _ b = some u
    have hb : b ≠ p := by
      intro z
      subst z
      have e : w.G b = some u := e
      rw [hg] at e
      cases e
    rw [upd_ne hb]
    exact r.mem.ext b u e
  · have h2 : (s.m.set n _)[k]? = some c' := h2
    by_cases hk' : n = k
    · subst hk'
      have hl : n < s.m.length := by rw [← r.mem.len]; exact (List.getElem?_eq_some_iff.mp hn).1
      rw [List.getElem?_set_self hl] at h2
      cases h2
      have h1 : w.r[n]? = some q := h1
      rw [hn] at h1
      cases h1
      exact ⟨hg, ws, upd_same, hk⟩
    · rw [List.getElem?_set_ne hk'] at h2
      have hq : q ≠ p := fun z => hk' (nd_ix r.mem.nd hn (z ▸ h1))
      have c0 := r.mem.cell k q c' h1 h2
      refine cOk_mono (Same.refl _) (fun hc => ?_) (fun u _ e => ?_) c0
      · show w.G q = none
        cases c' with
        | l ds => exact c0.1
        | k kvs => exact c0.1
        | t kvs => exact c0.1
        | r ks => exact c0.1
        | i n j ds => exact c0.1
        | g x => exact c0.1
        | gone => exact absurd rfl hc
      · show upd w.H p _ q = some u
        rw [upd_ne hq]
        exact e
  · obtain ⟨a, b, u, hu⟩ := r.mem.fo q hq
    refine ⟨a, b, u, ?_⟩
    show upd w.H p _ q = some u
    have hne : q ≠ p := by
      intro z
      subst z
      exact b (List.mem_of_getElem? hn)
    rw [upd_ne hne]
    exact hu
  · have q := r.slot i sl e
    cases sl with
    | x nm =>
      obtain ⟨h1, a, h2, h3, h4⟩ := q
      have hne : a ≠ p := fun z => by
        subst z
        exact h3 (List.mem_of_getElem? hn)
      exact ⟨h1, a, h2, h3, by show upd w.H p _ a = _; rw [upd_ne hne]; exact h4⟩
    | u => exact q
    | d x => exact q
    | c k => exact q
    | f => exact q
    | f2 => exact q
    | t b es => exact q
/-- the cell is walked from here -/
theorem cell_lock {K : Fg} {w : Wd} {σ : L2.St} {s : S} {n : Nat} {p : Addr} {od : Obj} {ws : List (L2.Key × V)} {kvs : List (L2.Key × D)} (r : Rel ec K w σ s) (hn : w.r[n]? = some p) (hg : w.G p = none) (hv : w.H p = some (.dK ws)) (hk : KvAll K w.G ws kvs) :
    Rel ec K ⟨w.G, w.r, w.F, upd w.H p (.frz od (.dK ws))⟩ σ ⟨s.v, s.m.set n (.g (.kl kvs))⟩ ∧ Le w ⟨w.G, w.r, w.F, upd w.H p (.frz od (.dK ws))⟩ :=
  cell_set (c := .g (.kl kvs)) r hn hg ⟨hg, _, upd_same, od, ws, rfl, hk⟩ fun _ _ z => by
    rw [hv] at z
    cases z
def lkS (pick : S → Option Nat) (c : CS) : CS := fun s => match pick s with
  | some n => match s.m[n]? with
    | some (.k kvs) => match c ⟨s.v, s.m.set n (.g (.kl kvs))⟩ with
      | .nx s' => match s'.m[n]? with
        | some (.g (.kl ks)) => .nx ⟨s'.v, s'.m.set n (.k ks)⟩
        | _ => .bad
      | .rt (.d x) s' => match s'.m[n]? with
        | some (.g (.kl ks)) => .rt (.d x) ⟨s'.v, s'.m.set n (.k ks)⟩
        | _ => .bad
      | _ => .bad
    | _ => .bad
  | none => .bad
def lkE (pick : S → Option Nat) (c : CE) : CE := fun s => match pick s with
  | some n => match s.m[n]? with
    | some (.k kvs) => match c ⟨s.v, s.m.set n (.g (.kl kvs))⟩ with
      | .ok (.d x) s' => match s'.m[n]? with
        | some (.g (.kl ks)) => .ok (.d x) ⟨s'.v, s'.m.set n (.k ks)⟩
        | _ => .bad
      | _ => .bad
    | _ => .bad
  | none => .bad
/-- what the walked cell is behind the walk -/
theorem lock_end {K : Fg} {w w1 w2 : Wd} {σ : L2.St} {s s2 : S} {n : Nat} {p : Addr} {od : Obj} {ws : List (L2.Key × V)} {ks : List (L2.Key × D)} (r : Rel ec K w σ s) (hn : w.r[n]? = some p) (hv : w.H p = some (.dK ws)) (e1 : w1 = ⟨w.G, w.r, w.F, upd w.H p (.frz od (.dK ws))⟩) (le1 : Le w w1) (le2 : Le w1 w2) {σ2 : L2.St} (r2 : Rel ec K w2 σ2 s2) (hm : s2.m[n]? = some (.g (.kl ks))) :
    w2.H p = some (.frz od (.dK ws)) ∧ Rel ec K ⟨w2.G, w2.r, w2.F, upd w2.H p (.dK ws)⟩ σ2 ⟨s2.v, s2.m.set n (.k ks)⟩ ∧ Le w ⟨w2.G, w2.r, w2.F, upd w2.H p (.dK ws)⟩ := by
  have h1 : w1.H p = some (.frz od (.dK ws)) := by
    rw [e1]
    exact upd_same
  have h2 := le2.z _ _ _ h1
  have hn2 : w2.r[n]? = some p := (le1.trans le2).cell hn
  obtain ⟨hg, o, ho, od', ws', e, hk⟩ := r2.mem.cell n p _ hn2 hm
  rw [h2] at ho
  cases ho
  cases e
  exact ⟨h2, cell_back r.mem.inv (le1.trans le2) hv r2 hn2 (List.mem_of_getElem? hn) hg h2 hk⟩
theorem s_lk {st : Stmt} {c : CS} (pick : S → Option Nat) (h : Sx X ec W st c) : Sx X ec W st (lkS pick c) := (ps_lock h).imp fun D σ H q => by
  obtain ⟨w, s, rfl, hr, q⟩ := q
  unfold lkS at q
  split at q
  · rename_i n _
    split at q
    · rename_i kvs hm
      have hl : n < w.r.length := by
        rw [hr.mem.len]
        exact (List.getElem?_eq_some_iff.mp hm).1
      have hn : w.r[n]? = some w.r[n] := List.getElem?_eq_getElem hl
      obtain ⟨hg, ws, hv, kv⟩ := hr.mem.cell n _ _ hn hm
      refine ⟨w.r[n], .dK ws, hv, trivial, fun od => ?_⟩
      obtain ⟨r1, le1⟩ := cell_lock (od := od) hr hn hg hv kv
      refine ⟨_, _, rfl, r1, ?_⟩
      split at q
      · rename_i s' e
        rw [e]
        split at q
        · rename_i ks e'
          intro σ2 w2 le2 r2
          obtain ⟨h1, h2, h3⟩ := lock_end hr hn hv rfl le1 le2 r2 e'
          exact ⟨h1, q σ2 _ h3 h2⟩
        · exact q.elim
      · rename_i x s' e
        rw [e]
        split at q
        · rename_i ks e'
          intro y σ2 w2 le2 r2 oa fr
          obtain ⟨h1, h2, h3⟩ := lock_end hr hn hv rfl le1 le2 r2 e'
          exact ⟨h1, q y σ2 _ h3 h2 oa .d⟩
        · exact q.elim
      · exact q.elim
    · exact q.elim
  · exact q.elim
theorem e_lkE {e : Expr} {c : CE} (pick : S → Option Nat) (h : Ex X ec W e c) : Ex X ec W e (lkE pick c) := (pe_lock h).imp fun σ H Q q => by
  obtain ⟨w, s, rfl, hr, q⟩ := q
  unfold lkE at q
  split at q
  · rename_i n _
    split at q
    · rename_i kvs hm
      have hl : n < w.r.length := by
        rw [hr.mem.len]
        exact (List.getElem?_eq_some_iff.mp hm).1
      have hn : w.r[n]? = some w.r[n] := List.getElem?_eq_getElem hl
      obtain ⟨hg, ws, hv, kv⟩ := hr.mem.cell n _ _ hn hm
      refine ⟨w.r[n], .dK ws, hv, trivial, fun od => ?_⟩
      obtain ⟨r1, le1⟩ := cell_lock (od := od) hr hn hg hv kv
      refine ⟨_, _, rfl, r1, ?_⟩
      split at q
      · rename_i x s' e
        rw [e]
        split at q
        · rename_i ks e'
          intro y w2 le2 r2 oa fr
          obtain ⟨h1, h2, h3⟩ := lock_end hr hn hv rfl le1 le2 r2 e'
          exact ⟨h1, q y _ h3 h2 oa .d⟩
        · exact q.elim
      · exact q.elim
    · exact q.elim
  · exact q.elim
/-- for k in d, d a cell that is walked -/
def ciKeyL (c : CE) : CI := fun s => (cv c s).bind fun a s1 => match a with
  | .ref n => match s1.m[n]? with
    | some (.g (.kl kvs)) => .ok (kvs.map fun p => kD p.1) s1
    | _ => .bad
  | _ => .bad
theorem kv_at {K : Fg} {G : Hp} : ∀ {ws : List (L2.Key × V)} {kvs : List (L2.Key × D)} {i : Nat} {e : L2.Key × D}, KvAll K G ws kvs → kvs[i]? = some e → ∃ v, ws[i]? = some (e.1, v)
  | _, _, i, e, .nil, h => by simp at h
  | (k, v) :: ws, (k', d) :: kvs, 0, e, .cons r t, h => by
    obtain ⟨e1, _⟩ := r
    have e1 : k = k' := e1
    subst e1
    cases h
    exact ⟨v, rfl⟩
  | _, _, i + 1, e, .cons r t, h => kv_at (i := i) t h
theorem i_keysL {tg l : Expr} {c : CE} (h : Ex X ec W l c) : Ix X ec W tg l (ciKeyL c) := PI.imp (pi_keys h) fun σ H R h => by
  obtain ⟨w, s, rfl, hr, h⟩ := h
  refine run_cv hr h fun x w1 s1 a le1 hr1 ha hn h1 => ?_
  cases a with
  | d y => exact h1.elim
  | new c => exact h1.elim
  | t _ _ => exact h1.elim
  | ref n =>
    obtain ⟨p, rfl, hp⟩ := ha
    dsimp only at h1
    split at h1
    · rename_i kvs hm
      obtain ⟨hg, o, ho, od, ws, rfl, kv⟩ := hr1.mem.cell n p _ hp hm
      have hlen : ws.length = kvs.length := paired_len kv
      refine ⟨p, od, rfl, .inl ⟨ws, ho, h1 _ w1 le1 hr1 fun w2 le2 e2 i => ⟨fun d hd => ⟨⟨le2.z _ _ _ ho, ?_⟩, fun x H' hy => ?_⟩, fun hl => ⟨le2.z _ _ _ ho, by rw [hlen]; rw [List.length_map] at hl; exact hl⟩⟩⟩⟩
      · rw [hlen]
        have := (List.getElem?_eq_some_iff.mp hd).1
        rw [List.length_map] at this
        exact this
      · obtain ⟨rfl, k, v, e3, rfl⟩ := hy
        rw [List.getElem?_map] at hd
        obtain ⟨e, he, rfl⟩ := Option.map_eq_some_iff.mp hd
        obtain ⟨v', e5⟩ := kv_at kv he
        rw [e3] at e5
        cases e5
        obtain ⟨ek, ed⟩ := e
        exact ⟨w2, Gr.refl w2, rfl, by cases ek <;> first | exact .int _ | exact .str _⟩
    · exact h1.elim
def pkF (i : Nat) (f : Str) : S → Option Nat := fun s => match s.v[i]? with
  | some (.c n) => match s.m[n]? with
    | some (.g (.o _ fs)) => match fs.lookup f with
      | some (.c k) => some k
      | _ => none
    | some (.g (.w fs)) => match fs.lookup f with
      | some (.c k) => some k
      | _ => none
    | _ => none
  | _ => none
/-! ### d.pop(k) -/
def dropD {κ : Type} [DecidableEq κ] (kvs : List (κ × D)) (k : κ) : List (κ × D) := kvs.filter fun p => !decide (p.1 = k)
def cDPop (co ck : CE) : CE := fun s => (cv co s).bind fun a s1 => match a with
  | .ref n => match s1.m[n]? with
    | some (.k _) => (cv ck s1).bind fun y s2 => match y with
      | .d d => match keyOf d with
        | some k => match s2.m[n]? with
          | some (.k kvs) => match getD kvs k with
            | some x => .ok (.d x) ⟨s2.v, s2.m.set n (.k (dropD kvs k))⟩
            | none => .bad
          | _ => .bad
        | none => .bad
      | _ => .bad
    | _ => .bad
  | _ => .bad
theorem kv_drop {K : Fg} {G : Hp} {κ : Type} [DecidableEq κ] {k : κ} : ∀ {ws : List (κ × V)} {kvs : List (κ × D)}, KvAll K G ws kvs → KvAll K G (dropK ws k) (dropD kvs k)
  | _, _, .nil => .nil
  | (k1, v) :: ws, (k2, d) :: kvs, .cons r t => by
    obtain ⟨e1, rp⟩ := r
    have e1 : k1 = k2 := e1
    subst e1
    unfold dropK dropD
    rw [List.filter_cons, List.filter_cons]
    by_cases q : k1 = k
    · rw [if_neg (by simpa using q), if_neg (by simpa using q)]
      exact kv_drop t
    · rw [if_pos (by simpa using q), if_pos (by simpa using q)]
      exact .cons ⟨rfl, rp⟩ (kv_drop t)
theorem e_dpop {o e : Expr} {co ck : CE} {apos cpos : Pos} (ho : Ex X ec W o co) (he : Ex X ec W e ck) (m : M1 X o "pop" apos e cpos := by exact ⟨rfl, rfl, rfl, rfl⟩) : Ex X ec W (.Call (.Attribute o "pop" apos) [e] [] cpos) (cDPop co ck) :=
  (pe_dpop1 ho he m).imp fun σ H Q h => by
    obtain ⟨w, s, rfl, hr, h⟩ := h
    unfold cDPop at h
    refine run_cv hr h fun x w1 s1 a le1 hr1 ha hn h1 => ?_
    cases a with
    | d y => exact h1.elim
    | new c => exact h1.elim
    | t _ _ => exact h1.elim
    | ref n =>
      obtain ⟨p, rfl, hp⟩ := ha
      dsimp only at h1
      split at h1
      · rename_i kvs0 hm
        obtain ⟨hg, ws0, hv0, kv0⟩ := hr1.mem.cell n p _ hp hm
        refine ⟨p, rfl, .inl ⟨ws0, Rd.of hv0⟩, ?_⟩
        refine run_cv hr1 (Res.mono h1 (fun _ _ z => z) fun e s z w' le r => z w' (le1.trans le) r) fun y w2 s2 b le2 hr2 hb hn2 h2 => ?_
        cases b with
        | new c => exact h2.elim
        | t _ _ => exact h2.elim
        | ref _ => exact h2.elim
        | d d =>
          dsimp only at h2
          split at h2
          · rename_i k hk
            split at h2
            · rename_i kvs hm2
              split at h2
              · rename_i z hz
                have hp2 := le2.cell hp
                obtain ⟨hg2, ws, hv, kv⟩ := hr2.mem.cell n p _ hp2 hm2
                obtain ⟨v, e1, rv⟩ := kv_get kv hz
                have hb : Rp X.K w2.G y d := hb
                obtain ⟨r3, le3⟩ := cell_set (c := .k (dropD kvs k)) (o := .dK (dropK ws k)) hr2 hp2 hg2 ⟨hg2, _, upd_same, kv_drop kv⟩ fun _ _ z => by
                  rw [hv] at z
                  cases z
                exact ⟨ws, k, v, hv, keyOf_ok (w := w2) (.inl hb) hk, e1, h2 v _ ((le1.trans le2).trans le3) r3 rv .d⟩
              · exact h2.elim
            · exact h2.elim
          · exact h2.elim
      · exact h1.elim
end
end Vm
namespace Vm
open PySem L2 PySem.Spec PyProof.Rows
/-! ### a class's object is made -/
theorem nv_inO {ec : EC} {w : Wd} {m : List Cell} {p dx : Addr} {C : String} {fs : List (Str × El)} {vs : List (Str × V)} (hl : w.r.length = m.length) (h : NV ec w m) (hp : w.H p = some (.ins (ec.f C) dx vs)) (fc : Paired (FdC w.r m.length) vs fs) : NV ec ⟨w.G, w.r ++ [p], w.F, w.H⟩ (m ++ [.g (.o C fs)]) := by
  refine ⟨⟨fun t q n j ds e1 e2 => ?_, fun t q x e1 e2 => ?_⟩, h.2⟩
  · have e1 : (w.r ++ [p])[t]? = some q := e1
    by_cases ht : t < m.length
    · rw [List.getElem?_append_left ht] at e2
      rw [List.getElem?_append_left (by omega)] at e1
      obtain ⟨h1, h2⟩ := h.1.1 t q n j ds e1 e2
      refine ⟨h1, fun p' ks e3 e4 => ?_⟩
      have e3 : (w.r ++ [p])[n]? = some p' := e3
      rw [List.getElem?_append_left (by omega)] at e3
      rw [List.getElem?_append_left (by omega)] at e4
      exact h2 p' ks e3 e4
    · rw [List.getElem?_append_right (by omega)] at e2
      cases hk : t - m.length with
      | zero =>
        rw [hk] at e2
        cases e2
      | succ k =>
        rw [hk] at e2
        cases e2
  · have e1 : (w.r ++ [p])[t]? = some q := e1
    by_cases ht : t < m.length
    · rw [List.getElem?_append_left ht] at e2
      rw [List.getElem?_append_left (by omega)] at e1
      refine (h.1.2 t q x e1 e2).mono (fun k p' hk z => ?_) fun _ _ z => z
      show (w.r ++ [p])[k]? = some p'
      rw [List.getElem?_append_left (by omega)]
      exact z
    · rw [List.getElem?_append_right (by omega)] at e2
      cases hk : t - m.length with
      | zero =>
        rw [hk] at e2
        cases e2
        have ht' : t = m.length := by omega
        subst ht'
        rw [List.getElem?_append_right (by omega), hl, Nat.sub_self] at e1
        cases e1
        refine ⟨dx, vs, hp, Paired.mapP fc fun a b z k e => ?_⟩
        obtain ⟨h1, p', h2, h3⟩ := z k e
        refine ⟨h1, p', h2, ?_⟩
        show (w.r ++ [p])[k]? = some p'
        rw [List.getElem?_append_left (by omega)]
        exact h3
      | succ k =>
        rw [hk] at e2
        cases e2
theorem fresh_of {ec : EC} {K : Fg} {w : Wd} {σ : L2.St} {s : S} {p : Addr} (r : Rel ec K w σ s) (hp : w.H p = none) : w.G p = none ∧ p ∉ w.r ∧ ¬ w.F p := by
  have hh := r.hold (o := .dK []) hp
  obtain ⟨h3, h4, _⟩ := hh.mem.fo p (.inr rfl)
  refine ⟨h3, h4, fun z => ?_⟩
  obtain ⟨_, _, u, hu⟩ := r.mem.fo p z
  rw [hp] at hu
  cases hu
/-- a new cell with what stands there -/
theorem lay_cell {ec : EC} {K : Fg} {w0 w : Wd} {σ : L2.St} {s : S} {p : Addr} {o : HO} {c : Cell} (i0 : Le ec.w (w0.f ec.w.F)) (le : Le w0 w) (r : Rel ec K w σ s) (hp : w.H p = none) (hc : COk K w.G (upd w.H p o) p c) (hg : c ≠ .gone) (hni : ∀ n j ds, c ≠ .i n j ds) (ho : c.noO = true) :
    Rel ec K ⟨w.G, w.r ++ [p], w.F, upd w.H p o⟩ σ ⟨s.v, s.m ++ [c]⟩ ∧ Le w0 ⟨w.G, w.r ++ [p], w.F, upd w.H p o⟩ := by
  obtain ⟨h1, h2, h3⟩ := fresh_of r hp
  have r2 := r.grow (gr_new (o := o) hp)
  have hf : w0.H p = none := by
    cases e : w0.H p with
    | none => rfl
    | some u =>
      by_cases z : p ∈ w0.r
      · have z1 : p ∈ w.r := by
          obtain ⟨t, e⟩ := le.p
          rw [← e]
          exact List.mem_append_left _ z
        exact absurd z1 h2
      · obtain ⟨u', e1⟩ := le.kX e z
        rw [hp] at e1
        cases e1
  exact cell_in (w := w0) (c := c) hg hni i0 (le.trans (gr_new (o := o) hp).le) r2 ⟨h2, h3⟩ hf hc ho
theorem lay_obj {ec : EC} {K : Fg} {w0 w : Wd} {σ : L2.St} {s : S} {p dx : Addr} {C : String} {fs : List (Str × El)} {vs : List (Str × V)} (i0 : Le ec.w (w0.f ec.w.F)) (le : Le w0 w) (r : Rel ec K w σ s) (hp : w.H p = none) (fr : Paired (FdR K w.G) vs fs) (fc : Paired (FdC w.r s.m.length) vs fs) :
    Rel ec K ⟨w.G, w.r ++ [p], w.F, upd w.H p (.ins (ec.f C) dx vs)⟩ σ ⟨s.v, s.m ++ [.g (.o C fs)]⟩ ∧ Le w0 ⟨w.G, w.r ++ [p], w.F, upd w.H p (.ins (ec.f C) dx vs)⟩ := by
  obtain ⟨h1, h2, h3⟩ := fresh_of r hp
  have r2 := r.grow (gr_new (o := .ins (ec.f C) dx vs) hp)
  have hf : w0.H p = none := by
    cases e : w0.H p with
    | none => rfl
    | some u =>
      by_cases z : p ∈ w0.r
      · have z1 : p ∈ w.r := by
          obtain ⟨t, e⟩ := le.p
          rw [← e]
          exact List.mem_append_left _ z
        exact absurd z1 h2
      · obtain ⟨u', e1⟩ := le.kX e z
        rw [hp] at e1
        cases e1
  exact cell_inN (w := w0) (c := .g (.o C fs)) (by intro z; cases z) (nv_inO (dx := dx) r2.mem.len r2.mem.nv upd_same fc) i0 (le.trans (gr_new (o := .ins (ec.f C) dx vs) hp).le) r2 ⟨h2, h3⟩ hf ⟨h1, _, upd_same, _, _, _, rfl, fr⟩
/-- a room: its boxes, the balls that lie there, how many are known, the deeds -/
def roomV (x : V) (d q : Addr) (z : Int) : List (Str × V) := [("many", x), ("lying", .ref d), ("known", .int z), ("past", .ref q)]
def roomF (x : D) (k n : Nat) (z : Int) : List (Str × El) := [("many", .d x), ("lying", .c k), ("known", .d (.int z)), ("past", .c n)]
def spRoom (C : Addr) : Sp := fun vs H Q _ => ∃ (p dx : Addr) (x : V), vs = [.ref p, x] ∧ H p = some (.ins C dx []) ∧
  ∀ (d q : Addr) (H' : Hp), d ≠ p → q ≠ p → q ≠ d → H d = none → H q = none → H' = upd (upd (upd H d (.dK [])) q (.lst [])) p (.ins C dx (roomV x d q 0)) → Q .non H'
theorem putF_len {f : Str} {v : V} : ∀ {fs : List (Str × V)} {n : Nat}, fs.length ≤ n → (putF f v fs).length ≤ n + 1
  | [], n, _ => by
    show 1 ≤ n + 1
    omega
  | (g, x) :: r, n, h => by
    unfold putF
    split
    · rw [List.length_cons] at h ⊢
      omega
    · rw [List.length_cons] at h ⊢
      have := putF_len (f := f) (v := v) (fs := r) (n := r.length) (Nat.le_refl _)
      omega
theorem room_put {x : V} {d q : Addr} : putF "past" (.ref q) (putF "known" (.int 0) (putF "lying" (.ref d) (putF "many" x []))) = roomV x d q 0 := by
  have h1 : ¬ (("many" : Str) = "lying") := by decide +kernel
  have h2 : ¬ (("many" : Str) = "known") := by decide +kernel
  have h3 : ¬ (("many" : Str) = "past") := by decide +kernel
  have h4 : ¬ (("lying" : Str) = "known") := by decide +kernel
  have h5 : ¬ (("lying" : Str) = "past") := by decide +kernel
  have h6 : ¬ (("known" : Str) = "past") := by decide +kernel
  simp [putF, h1, h2, h3, h4, h5, h6, roomV]
theorem upd_upd {H : Hp} {p : Addr} {a b : HO} : upd (upd H p a) p b = upd H p b := by
  funext c
  by_cases h : c = p
  · rw [h, upd_same, upd_same]
  · rw [upd_ne h, upd_ne h, upd_ne h]
theorem upd_comm {H : Hp} {p q : Addr} {a b : HO} (h : p ≠ q) : upd (upd H p a) q b = upd (upd H q b) p a := by
  funext c
  by_cases h1 : c = p
  · rw [h1, upd_ne h, upd_same, upd_same]
  · by_cases h2 : c = q
    · rw [h2, upd_same, upd_ne (Ne.symm h), upd_same]
    · rw [upd_ne h2, upd_ne h1, upd_ne h1, upd_ne h2]
theorem room_heap {H : Hp} {p d q : Addr} {a1 a2 a3 a4 b c : HO} (hd : d ≠ p) (hq : q ≠ p) : upd (upd (upd (upd (upd (upd H p a1) d b) p a2) p a3) q c) p a4 = upd (upd (upd H d b) q c) p a4 := by
  rw [upd_upd (H := upd (upd H p a1) d b), upd_comm (p := p) (q := d) (Ne.symm hd), upd_upd, upd_comm (p := p) (q := q) (Ne.symm hq), upd_upd]
section
variable {X : Cx} {ec : EC} {W : WX}
def cMkRoom (cl : CL) : CE := fun s => (cl s).bind fun as s1 => match as with
  | [.d x] => .ok (.ref (s1.m.length + 2)) ⟨s1.v, s1.m ++ [.k [], .l [], .g (.o "Room" (roomF x s1.m.length (s1.m.length + 1) 0))]⟩
  | _ => .bad
theorem e_mkRoom {k : Nat} {f : Addr} {fd : FuncData} {ps fs0 : List Str} {p pos : Pos} {e : Expr} {es : List Expr} {cl : CL} (c : ClsF X.K X.mg ec "Room" fs0) (M : Mk X.K (ec.f "Room") f) (F : FnOk X.prog X.w X.K X.mg X.base CX0 k f fd ps (spRoom (ec.f "Room"))) (hr : L2.Room (k + 1) X.A) (hb : Binds X.K fd ps []) (ha : PA X (e :: es) (rdL X.K ec W cl)) (hg : Gl X "Room" := by rfl)
    (he : starEach (e :: es) X.env = (false, eval e X.env) :: starEach es X.env := by rfl) (hpl : (backTo pos (starEach es X.env)).any (·.1) = false := by rfl) : Ex X ec W (.Call (.Name "Room" p) (e :: es) [] pos) (cMkRoom cl) :=
  (pe_make (E := fun _ _ _ => False) M F hr hg c.g hb (dvs := []) .nil pass0 ha (by decide +kernel) he hpl).imp fun σ H Q h => by
    obtain ⟨w, s, rfl, hr, h⟩ := h
    unfold cMkRoom at h
    refine ⟨w, s, rfl, hr, ?_⟩
    cases e1 : cl s with
    | bad => rw [e1] at h; exact h
    | ex n s' => rw [e1] at h; exact h
    | ok as s2 =>
      rw [e1] at h
      intro us w2 le2 r2 ao
      cases ao with
      | nil => exact h.elim
      | @cons v sl vs as hv ht =>
        cases ht with
        | @cons _ _ _ _ _ _ =>
          cases sl <;> exact h.elim
        | nil =>
          cases sl with
          | d x =>
            obtain ⟨v', e2, rv⟩ := hv
            cases e2
            have h : Res (okV ec X.K w σ Q) (okE X.K ec W σ w) (.ok (.ref (s2.m.length + 2)) ⟨s2.v, s2.m ++ [.k [], .l [], .g (.o "Room" (roomF x s2.m.length (s2.m.length + 1) 0))]⟩) := h
            intro xa dx nx ndx nex
            refine ⟨xa, dx, v, rfl, upd_same, fun d q H' ndp nqp nqd hd hq eH => ⟨rfl, ?_⟩⟩
            have nxd : xa ≠ dx := Ne.symm nex
            have hd0 : upd w2.H dx (.own xa) d = none := by rw [upd_ne ndp] at hd; exact hd
            have hq0 : upd w2.H dx (.own xa) q = none := by rw [upd_ne nqp] at hq; exact hq
            have r3 := r2.grow (gr_new (o := .own xa) ndx)
            have l3 := (gr_new (w := w2) (o := .own xa) ndx).le
            obtain ⟨r4, l4⟩ := lay_cell (c := .k []) (o := .dK []) r2.mem.inv l3 r3 hd0 ⟨(fresh_of r3 hd0).1, [], upd_same, .nil⟩ (by intro z; cases z) (by intro _ _ _ z; cases z) rfl
            have hq1 : upd (upd w2.H dx (.own xa)) d (.dK []) q = none := by rw [upd_ne nqd]; exact hq0
            obtain ⟨r5, l5⟩ := lay_cell (c := .l []) (o := .lst []) r2.mem.inv l4 r4 hq1 ⟨(fresh_of r4 hq1).1, [], upd_same, .nil⟩ (by intro z; cases z) (by intro _ _ _ z; cases z) rfl
            have hx1 : upd (upd (upd w2.H dx (.own xa)) d (.dK [])) q (.lst []) xa = none := by
              rw [upd_ne (Ne.symm nqp), upd_ne (Ne.symm ndp), upd_ne nxd]
              exact nx
            have len := r2.mem.len
            have ld : ((w2.r ++ [d]) ++ [q])[s2.m.length]? = some d := by
              rw [List.append_assoc, List.getElem?_append_right (by omega), ← len, Nat.sub_self]
              rfl
            have lq : ((w2.r ++ [d]) ++ [q])[s2.m.length + 1]? = some q := by
              rw [List.append_assoc, List.getElem?_append_right (by omega), ← len, Nat.add_sub_cancel_left]
              rfl
            have lm : ((s2.m ++ [Cell.k []]) ++ [Cell.l []]).length = s2.m.length + 2 := by simp
            obtain ⟨r6, l6⟩ := lay_obj (C := "Room") (dx := dx) (vs := roomV v d q 0) (fs := roomF x s2.m.length (s2.m.length + 1) 0) r2.mem.inv l5 r5 hx1
              (.cons ⟨rfl, rv⟩ (.cons ⟨rfl, trivial⟩ (.cons ⟨rfl, .int 0⟩ (.cons ⟨rfl, trivial⟩ .nil))))
              (.cons (fun k z => by cases z) (.cons (fun k z => by cases z; exact ⟨by rw [lm]; omega, d, rfl, ld⟩) (.cons (fun k z => by cases z) (.cons (fun k z => by cases z; exact ⟨by rw [lm]; omega, q, rfl, lq⟩) .nil))))
            have eh : H' = upd (upd (upd (upd w2.H dx (.own xa)) d (.dK [])) q (.lst [])) xa (.ins (ec.f "Room") dx (roomV v d q 0)) := by
              rw [eH, upd_comm (p := xa) (q := d) (Ne.symm ndp), upd_comm (p := xa) (q := q) (Ne.symm nqp), upd_upd]
            rw [eh]
            have em : (s2.m ++ [Cell.k []]) ++ [Cell.l []] ++ [Cell.g (.o "Room" (roomF x s2.m.length (s2.m.length + 1) 0))] = s2.m ++ [Cell.k [], Cell.l [], Cell.g (.o "Room" (roomF x s2.m.length (s2.m.length + 1) 0))] := by simp
            have r7 : Rel ec X.K ⟨w2.G, w2.r ++ [d] ++ [q] ++ [xa], w2.F, upd (upd (upd (upd w2.H dx (.own xa)) d (.dK [])) q (.lst [])) xa (.ins (ec.f "Room") dx (roomV v d q 0))⟩ σ ⟨s2.v, s2.m ++ [Cell.k [], Cell.l [], Cell.g (.o "Room" (roomF x s2.m.length (s2.m.length + 1) 0))]⟩ := by
              rw [← em]
              exact r6
            refine h (.ref xa) _ (le2.trans l6) r7 ⟨xa, rfl, ?_⟩ .ref
            show (w2.r ++ [d] ++ [q] ++ [xa])[s2.m.length + 2]? = some xa
            rw [List.append_assoc, List.append_assoc, List.getElem?_append_right (by omega), ← len, Nat.add_sub_cancel_left]
            rfl
          | u => exact h.elim
          | c _ => exact h.elim
          | x _ => exact h.elim
          | f => exact h.elim
          | f2 => exact h.elim
          | t _ _ => exact h.elim
end
end Vm
namespace Vm
open PySem L2 PySem.Spec PyProof.Rows
/-! ### methods of a class of the text -/
structure MthF (K : Fg) (ec : EC) (C : String) (m qual : Str) (st : Stmt) (ps : List Str) : Prop where
  ex : ∃ f fd, Fun K m qual st f fd ∧ Meth K (ec.f C) m f ∧ Binds K fd ps []
theorem MthF.calM {P : Program} {wo : World} {K : Fg} {mg : Str → Option Value} {base : Heap} {ec : EC} {C : String} {m qual : Str} {st : Stmt} {ps : List Str} {g : Fn} {k : Nat} (D : MthF K ec C m qual st ps)
    (h : ∀ {f : Addr} {fd : FuncData}, Fun K m qual st f fd → FnG P wo K mg base k f fd ps (spF K ec ps.length g)) : CalM P wo K mg base ec C m ps g k := by
  obtain ⟨f, fd, F, hm, hb⟩ := D.ex
  have hf := h F
  obtain ⟨oc, od, kV, doc, pm, an, cdv, ct, osl, rfl, lk, hcd⟩ := F.ex
  exact ⟨f, _, oc, od, osl, lk, hf, hm, hb⟩
/-- how rooms are made -/
def MkRoom (P : Program) (wo : World) (K : Fg) (mg : Str → Option Value) (base : Heap) (ec : EC) : Prop :=
  ∃ f fd, Mk K (ec.f "Room") f ∧ FnOk P wo K mg base CX0 1 f fd ["self", "n"] (spRoom (ec.f "Room")) ∧ Binds K fd ["self", "n"] []
/-- a tuple of data and cells is taken apart -/
def cUnT (i j : Nat) (c : CE) : CS := fun s => (cv c s).out fun a s1 => match a with
  | .t true [e1, e2] => .nx ⟨(s1.v.set i (elSl e1)).set j (elSl e2), s1.m⟩
  | _ => .bad
section
variable {X : Cx} {ec : EC} {W : WX}
theorem s_unT (i j : Nat) {x y : Str} {e : Expr} {c : CE} {px py pt pos : Pos} {kt} (hN : X.N.Nodup) (he : Ex X ec W e c) (hcal : X.calm = true := by rfl) (hi : X.N[i]? = some x := by rfl) (hj : X.N[j]? = some y := by rfl)
    (hx : Loc X.env.scope x := by first | exact Or.inl rfl | exact Or.inr rfl) (hy : Loc X.env.scope y := by first | exact Or.inl rfl | exact Or.inr rfl) (hf : X.fn x = true ∨ X.env.scope.names.lookup x = some .local := by first | exact .inl rfl | exact .inr rfl) (hg : X.fn y = true ∨ X.env.scope.names.lookup y = some .local := by first | exact .inl rfl | exact .inr rfl)
    (hs : swapsWithSole [.Tuple [.Name x px, .Name y py] kt pt] e pos.line X.env = pure false := by rfl) (hw : swappedStores [.Tuple [.Name x px, .Name y py] kt pt] e X.env = pure none := by rfl) (h1 : (assignEach [.Tuple [.Name x px, .Name y py] kt pt] X.env).map (·.2) = [assign (.Tuple [.Name x px, .Name y py] kt pt) X.env] := by rfl)
    (h2 : (assignEach [.Name x px, .Name y py] X.env).map (·.2) = assign (.Name x px) X.env :: (assignEach [.Name y py] X.env).map (·.2) := by rfl) (h3 : (assignEach [.Name y py] X.env).map (·.2) = assign (.Name y py) X.env :: (assignEach [] X.env).map (·.2) := by rfl)
    (hn : (assignEach [.Name x px, .Name y py] X.env).length = 2 := by rfl) (hst : (assignEach [.Name x px, .Name y py] X.env).findIdx? (·.1) = none := by rfl) :
    Sx X ec W (.Assign [.Tuple [.Name x px, .Name y py] kt pt] e pos) (cUnT i j c) :=
  (ps_asg he (pg_tup hcal (pgs_cons (pg_name hN hi hx hf) (pgs_cons (pg_name hN hj hy hg) pgs_nil h3) h2) hn hst) hs hw h1).imp fun D σ H h => by
    obtain ⟨w, s, rfl, hr, h⟩ := h
    unfold cUnT at h
    refine run_ev hr h fun v w1 s1 a le r o hna h1 => ?_
    cases a with
    | ref n => exact h1.elim
    | d _ => exact h1.elim
    | new c => exact h1.elim
    | t b es =>
      split at h1
      · rename_i e1 e2 q
        cases q
        obtain ⟨p, vs, rfl, hg, pe⟩ := o
        cases pe with
        | cons q1 t1 =>
          cases t1 with
          | cons q2 t2 =>
            cases t2
            rename_i v1 v2
            refine ⟨p, [v1, v2], rfl, SqT.of (r.mem.ext _ _ hg), rfl, v1, [v2], rfl, v2, [], rfl, rfl, ?_⟩
            have r2 := r.set i (elSl_ok (ec := ec) q1)
            have r3 := r2.set j (elSl_ok (ec := ec) q2)
            exact h1 _ w1 le r3
      · exact h1.elim
end
/-! ### what they tell -/
theorem cFld_ok {C : String} {f : Str} {co : CE} {s s1 : S} {n : Nat} {fs : List (Str × El)} {el : El} (h : co s = .ok (.ref n) s1) (hm : s1.m[n]? = some (.g (.o C fs))) (hl : fs.lookup f = some el) : cFld C f co s = .ok (elRv el) s1 := by
  unfold cFld cv
  rw [h]
  dsimp only [R.bind]
  rw [hm]
  dsimp only
  rw [if_pos rfl, hl]
theorem cFldPut_ok {C : String} {f : Str} {co c : CE} {s s1 s2 : S} {n : Nat} {fs : List (Str × El)} {x : D} (h : cv c s = .ok (.d x) s1) (h2 : co s1 = .ok (.ref n) s2) (hm : s2.m[n]? = some (.g (.o C fs))) (hl : fs.length < 1000) : cFldPut C f co c s = .nx ⟨s2.v, s2.m.set n (.g (.o C (putEl f (.d x) fs)))⟩ := by
  unfold cFldPut
  rw [h]
  show (cv co s1).out _ = _
  have e : cv co s1 = .ok (.ref n) s2 := by
    unfold cv
    rw [h2]
    rfl
  rw [e]
  show (match s2.m[n]? with
    | some (.g (.o C' fs)) => if C' = C ∧ fs.length < 1000 then Out.nx ⟨s2.v, s2.m.set n (.g (.o C (putEl f (.d x) fs)))⟩ else .bad
    | _ => .bad) = _
  rw [hm]
  dsimp only
  rw [if_pos ⟨rfl, hl⟩]
theorem cMeth_ok {C : String} {m : Str} {f : Fn} {co : CE} {cl : CL} {s s1 s2 : S} {n : Nat} {fs : List (Str × El)} {as : List Sl} (h : co s = .ok (.ref n) s1) (hm : s1.m[n]? = some (.g (.o C fs))) (hl : (fs.lookup m).isNone = true) (ha : cl s1 = .ok as s2) : cMeth C m f co cl s = (f (.c n :: as) s2.m).toR s2.v := by
  unfold cMeth cv
  rw [h]
  dsimp only [R.bind]
  rw [hm]
  dsimp only
  rw [if_pos ⟨rfl, hl⟩, ha]
theorem cMkRoom_ok {cl : CL} {s s1 : S} {x : D} (h : cl s = .ok [.d x] s1) : cMkRoom cl s = .ok (.ref (s1.m.length + 2)) ⟨s1.v, s1.m ++ [.k [], .l [], .g (.o "Room" (roomF x s1.m.length (s1.m.length + 1) 0))]⟩ := by
  unfold cMkRoom
  rw [h]
  rfl
end Vm
namespace Vm
open PySem L2 PySem.Spec PyProof.Rows
section
variable {X : Cx} {ec : EC} {W : WX}
theorem e_mkRoomX {fs0 : List Str} {p pos : Pos} {e : Expr} {es : List Expr} {cl : CL} (c : ClsF X.K X.mg ec "Room" fs0) (M : MkRoom X.prog X.w X.K X.mg X.base ec) (hr : L2.Room 2 X.A) (ha : PA X (e :: es) (rdL X.K ec W cl)) (hg : Gl X "Room" := by rfl)
    (he : starEach (e :: es) X.env = (false, eval e X.env) :: starEach es X.env := by rfl) (hpl : (backTo pos (starEach es X.env)).any (·.1) = false := by rfl) : Ex X ec W (.Call (.Name "Room" p) (e :: es) [] pos) (cMkRoom cl) := by
  obtain ⟨f, fd, m, F, b⟩ := M
  exact e_mkRoom c m F hr b ha hg he hpl
end
end Vm
namespace Vm
open PySem L2
def cChosen : CS :=
 (cSeq (cSet 2 (cOp2 opIx (cVar 1) (cC (.int 0))))
 (cSeq (cFor (ciSeq (cVar 1)) (tgN 3)
 (cIfS (cB (cOp2 opLt (cOp2 opIx (cVar 0) (cVar 3)) (cOp2 opIx (cVar 0) (cVar 2))))
 (cSet 2 (cVar 3))
 cNx))
 (cRet (cVar 2))))
def fChosen : Fn := runF 4 cChosen
def vals (ns bs : List Int) : List Int := bs.map fun b => ns.getD b.toNat 0
def chF (ns bs : List Int) : Int := bs.getD (fmI (vals ns bs)) 0
structure DrawOk (n : Nat) (bs : List Int) : Prop where
  ne : bs ≠ []
  rng : ∀ b, b ∈ bs → 0 ≤ b ∧ b < n
  len : bs.length ≤ 1000
def tupD (bs : List Int) : D := .tuple (bs.map PyData.int)
theorem vals_ne {n : Nat} {ns bs : List Int} (h : DrawOk n bs) : vals ns bs ≠ [] := fun z => by
  have : (vals ns bs).length = bs.length := List.length_map ..
  rw [z] at this
  exact h.ne (List.eq_nil_of_length_eq_zero this.symm)
theorem at_box {ns : List Int} {b : Int} (h0 : 0 ≤ b) (h1 : b < ns.length) : opIx (.d (.list (ns.map PyData.int))) (.d (.int b)) = some (.d (.int (ns.getD b.toNat 0))) := by
  have hx : ns[b.toNat]? = some ns[b.toNat] := List.getElem?_eq_getElem (by omega)
  refine opIx_l (atI_nat h0 ?_)
  rw [List.getElem?_map, hx, List.getD_eq_getElem?_getD, hx]
  rfl
theorem vals_at {ns bs : List Int} {i : Nat} (hi : i < bs.length) : (vals ns bs)[i]'(by rw [vals, List.length_map]; exact hi) = ns.getD bs[i].toNat 0 := by
  unfold vals
  rw [List.getElem_map]
def cCh : CS := (cIfS (cB (cOp2 opLt (cOp2 opIx (cVar 0) (cVar 3)) (cOp2 opIx (cVar 0) (cVar 2))))
 (cSet 2 (cVar 3))
 cNx)
theorem at_boxT {ns : List Int} {b : Int} (h0 : 0 ≤ b) (h1 : b < ns.length) : opIx (.d (tupD ns)) (.d (.int b)) = some (.d (.int (ns.getD b.toNat 0))) := by
  have hx : ns[b.toNat]? = some ns[b.toNat] := List.getElem?_eq_getElem (by omega)
  refine opIx_t (atI_nat h0 ?_)
  rw [List.getElem?_map, hx, List.getD_eq_getElem?_getD, hx]
  rfl
theorem chosen_t {ns bs : List Int} (h : DrawOk ns.length bs) (m : List Cell) : fChosen [.d (tupD ns), .d (tupD bs)] m = .ok (.d (.int (chF ns bs))) m := by
  have hvl : (vals ns bs).length = bs.length := List.length_map ..
  have h0 : 0 < bs.length := List.length_pos_iff.mpr h.ne
  obtain ⟨s', e, j, y3, hj, rfl, hp⟩ := forL_inv (tg := tgN 3) (body := cCh) (ds := bs.map PyData.int) (fun i s => ∃ (j : Nat) (y3 : Sl) (hj : j < bs.length), s = ⟨[.d (tupD ns), .d (tupD bs), .d (.int bs[j]), y3], m⟩ ∧ PreMin (vals ns bs) i j)
    (s := ⟨[.d (tupD ns), .d (tupD bs), .d (.int bs[0]), .u], m⟩) ⟨0, _, h0, rfl, .start (vals_ne h)⟩ fun i s d hd hi => by
      obtain ⟨j, y3, hj, rfl, hp⟩ := hi
      rw [List.getElem?_map] at hd
      obtain ⟨b, hb, rfl⟩ := Option.map_eq_some_iff.mp hd
      obtain ⟨hil, rfl⟩ := List.getElem?_eq_some_iff.mp hb
      have r1 := h.rng bs[i] (List.getElem_mem _)
      have r2 := h.rng bs[j] (List.getElem_mem _)
      have o1 := at_boxT r1.1 r1.2
      have o2 := at_boxT r2.1 r2.2
      by_cases hlt : ns.getD bs[i].toNat 0 < ns.getD bs[j].toNat 0
      · refine ⟨_, ⟨[.d (tupD ns), .d (tupD bs), .d (.int bs[i]), .d (.int bs[i])], m⟩, rfl, .inl ?_, i, _, hil, rfl, hp.take (by omega) (by rw [vals_at hil, vals_at hj]; exact hlt)⟩
        simp [-List.getD_eq_getElem?_getD, cCh, o1, o2, hlt]
      · refine ⟨_, ⟨[.d (tupD ns), .d (tupD bs), .d (.int bs[j]), .d (.int bs[i])], m⟩, rfl, .inl ?_, j, _, hj, rfl, hp.keep (by omega) (by rw [vals_at hil, vals_at hj]; exact hlt)⟩
        simp [-List.getD_eq_getElem?_getD, cCh, o1, o2, hlt]
  rw [List.length_map, ← hvl] at hp
  have hf := (fmI_ok (vals_ne h)).one hp.first
  have hc : chF ns bs = bs[j] := by
    unfold chF
    rw [hf, List.getD_eq_getElem?_getD, List.getElem?_eq_getElem hj]
    rfl
  have ix : opIx (.d (tupD bs)) (.d (.int 0)) = some (.d (.int bs[0])) := opIx_t (atI_nat (by decide) (by show (bs.map PyData.int)[0]? = _; rw [List.getElem?_map, List.getElem?_eq_getElem h0]; rfl))
  have cs : ∀ s : S, s.v[1]? = some (.d (tupD bs)) → ciSeq (cVar 1) s = .ok (bs.map PyData.int) s := fun s hs => by
    rw [ciSeq_s, cv_s, cVar_r, hs]
    rfl
  have hcc : cChosen = (cSeq (cSet 2 (cOp2 opIx (cVar 1) (cC (.int 0)))) (cSeq (cFor (ciSeq (cVar 1)) (tgN 3) cCh) (cRet (cVar 2)))) := rfl
  unfold fChosen
  rw [runF_s, hcc, hc]
  simp [-ciSeq_s, ix, cs, e]
theorem ch_rng {ns bs : List Int} (h : DrawOk ns.length bs) : 0 ≤ chF ns bs ∧ chF ns bs < ns.length := by
  have hf := fmI_ok (vals_ne (ns := ns) h)
  have hvl : (vals ns bs).length = bs.length := List.length_map ..
  have hl := hf.lt
  unfold chF
  rw [List.getD_eq_getElem?_getD, List.getElem?_eq_getElem (by omega)]
  exact h.rng _ (List.getElem_mem _)
end Vm
namespace Vm
open PySem L2
/-! ### a room as it stands in the memory: its dict at a, its list at a + 1, itself at a + 2 -/
structure Rm where
  n : Nat
  ly : List (Int × Int)
  z : Int
  ps : List (Bool × Int × Int)
def lyK (ly : List (Int × Int)) : List (L2.Key × D) := ly.map fun p => (.inl p.1, .int p.2)
def deedD (d : Bool × Int × Int) : D := .tuple [.bool d.1, .int d.2.1, .int d.2.2]
structure InRm (m : List Cell) (a : Nat) (R : Rm) : Prop where
  o : m[a + 2]? = some (.g (.o "Room" (roomF (.int R.n) a (a + 1) R.z)))
  l : m[a]? = some (.k (lyK R.ly))
  p : m[a + 1]? = some (.l (R.ps.map deedD))
structure Off3 (a : Nat) (m m' : List Cell) : Prop where
  len : m'.length = m.length
  at' : ∀ i, i ≠ a → i ≠ a + 1 → i ≠ a + 2 → m'[i]? = m[i]?
theorem Off3.refl {a : Nat} {m : List Cell} : Off3 a m m := ⟨rfl, fun _ _ _ _ => rfl⟩
theorem Off3.trans {a : Nat} {m m1 m2 : List Cell} (h : Off3 a m m1) (h2 : Off3 a m1 m2) : Off3 a m m2 := ⟨h2.len.trans h.len, fun i h3 h4 h5 => (h2.at' i h3 h4 h5).trans (h.at' i h3 h4 h5)⟩
theorem Off3.set {a k : Nat} {m : List Cell} {c : Cell} (h : k = a ∨ k = a + 1 ∨ k = a + 2) : Off3 a m (m.set k c) := ⟨List.length_set .., fun i h1 h2 h3 => List.getElem?_set_ne (by omega)⟩
theorem Off3.head {a : Nat} {p : Cell} {r m' : List Cell} (h : Off3 a (p :: r) m') (ha : 0 < a) : ∃ r', m' = p :: r' := by
  have h0 := h.at' 0 (by omega) (by omega) (by omega)
  cases m' with
  | nil => cases h0
  | cons x r' =>
    cases h0
    exact ⟨r', rfl⟩
theorem InRm.lt {m : List Cell} {a : Nat} {R : Rm} (h : InRm m a R) : a + 2 < m.length := (List.getElem?_eq_some_iff.mp h.o).1
theorem set_ne' {m : List Cell} {i j : Nat} {c : Cell} {x : Option Cell} (h : m[j]? = x) (n : i ≠ j) : (m.set i c)[j]? = x := by rw [List.getElem?_set_ne n]; exact h
theorem InRm.setL {m : List Cell} {a : Nat} {R : Rm} (h : InRm m a R) (ly : List (Int × Int)) : InRm (m.set a (.k (lyK ly))) a { R with ly := ly } :=
  ⟨set_ne' h.o (by omega), List.getElem?_set_self (by have := h.lt; omega), set_ne' h.p (by omega)⟩
theorem InRm.setP {m : List Cell} {a : Nat} {R : Rm} (h : InRm m a R) (ps : List (Bool × Int × Int)) : InRm (m.set (a + 1) (.l (ps.map deedD))) a { R with ps := ps } :=
  ⟨set_ne' h.o (by omega), set_ne' h.l (by omega), List.getElem?_set_self (by have := h.lt; omega)⟩
theorem InRm.setZ {m : List Cell} {a : Nat} {R : Rm} (h : InRm m a R) (z : Int) : InRm (m.set (a + 2) (.g (.o "Room" (roomF (.int R.n) a (a + 1) z)))) a { R with z := z } :=
  ⟨List.getElem?_set_self (by have := h.lt; omega), set_ne' h.l (by omega), set_ne' h.p (by omega)⟩
theorem InRm.off {m m' : List Cell} {a b : Nat} {R : Rm} (h : InRm m a R) (o : Off3 b m m') (hab : a + 3 ≤ b ∨ b + 3 ≤ a) : InRm m' a R :=
  ⟨(o.at' _ (by omega) (by omega) (by omega)).trans h.o, (o.at' _ (by omega) (by omega) (by omega)).trans h.l, (o.at' _ (by omega) (by omega) (by omega)).trans h.p⟩
theorem InRm.app {m : List Cell} {a : Nat} {R : Rm} (h : InRm m a R) (x : List Cell) : InRm (m ++ x) a R := by
  have := h.lt
  exact ⟨by rw [List.getElem?_append_left (by omega)]; exact h.o, by rw [List.getElem?_append_left (by omega)]; exact h.l, by rw [List.getElem?_append_left (by omega)]; exact h.p⟩
/-! the fields -/
variable {x : D} {k q : Nat} {z y : Int}
theorem roomF_many : (roomF x k q z).lookup ("many" : Str) = some (.d x) := rfl
theorem roomF_lying : (roomF x k q z).lookup ("lying" : Str) = some (.c k) := rfl
theorem roomF_known : (roomF x k q z).lookup ("known" : Str) = some (.d (.int z)) := rfl
theorem roomF_past : (roomF x k q z).lookup ("past" : Str) = some (.c q) := rfl
theorem roomF_put : putEl "known" (.d (.int y)) (roomF x k q z) = roomF x k q y := by
  have h1 : ¬ (("many" : Str) = "known") := by decide +kernel
  have h2 : ¬ (("lying" : Str) = "known") := by decide +kernel
  simp [putEl, roomF, h1, h2]
theorem fld_many {m : List Cell} {a i : Nat} {R : Rm} (h : InRm m a R) {v : List Sl} (hv : v[i]? = some (.c (a + 2))) : cFld "Room" "many" (cVar i) ⟨v, m⟩ = .ok (.d (.int R.n)) ⟨v, m⟩ :=
  cFld_ok (n := a + 2) (by rw [cVar_r, hv]; rfl) h.o roomF_many
theorem fld_lying {m : List Cell} {a i : Nat} {R : Rm} (h : InRm m a R) {v : List Sl} (hv : v[i]? = some (.c (a + 2))) : cFld "Room" "lying" (cVar i) ⟨v, m⟩ = .ok (.ref a) ⟨v, m⟩ :=
  cFld_ok (n := a + 2) (by rw [cVar_r, hv]; rfl) h.o roomF_lying
theorem fld_known {m : List Cell} {a i : Nat} {R : Rm} (h : InRm m a R) {v : List Sl} (hv : v[i]? = some (.c (a + 2))) : cFld "Room" "known" (cVar i) ⟨v, m⟩ = .ok (.d (.int R.z)) ⟨v, m⟩ :=
  cFld_ok (n := a + 2) (by rw [cVar_r, hv]; rfl) h.o roomF_known
theorem fld_past {m : List Cell} {a i : Nat} {R : Rm} (h : InRm m a R) {v : List Sl} (hv : v[i]? = some (.c (a + 2))) : cFld "Room" "past" (cVar i) ⟨v, m⟩ = .ok (.ref (a + 1)) ⟨v, m⟩ :=
  cFld_ok (n := a + 2) (by rw [cVar_r, hv]; rfl) h.o roomF_past
theorem meth_rm {m m' : List Cell} {a i : Nat} {R : Rm} {f : Fn} {mt : Str} {cl : CL} {as : List Sl} {y : Rv} (h : InRm m a R) {v : List Sl} (hv : v[i]? = some (.c (a + 2))) (hl : ((roomF (.int R.n) a (a + 1) R.z).lookup mt).isNone = true) (ha : cl ⟨v, m⟩ = .ok as ⟨v, m⟩) (e : f (.c (a + 2) :: as) m = .ok y m') :
    cMeth "Room" mt f (cVar i) cl ⟨v, m⟩ = .ok y ⟨v, m'⟩ := by
  rw [cMeth_ok (n := a + 2) (s2 := ⟨v, m⟩) (by rw [cVar_r, hv]; rfl) h.o hl ha]
  show (f (.c (a + 2) :: as) m).toR v = _
  rw [e]
  rfl
theorem meth_rmX {m m' : List Cell} {a i : Nat} {R : Rm} {f : Fn} {mt : Str} {cl : CL} {as : List Sl} {x : String} (h : InRm m a R) {v : List Sl} (hv : v[i]? = some (.c (a + 2))) (hl : ((roomF (.int R.n) a (a + 1) R.z).lookup mt).isNone = true) (ha : cl ⟨v, m⟩ = .ok as ⟨v, m⟩) (e : f (.c (a + 2) :: as) m = .ex x m') :
    cMeth "Room" mt f (cVar i) cl ⟨v, m⟩ = .ex x ⟨v, m'⟩ := by
  rw [cMeth_ok (n := a + 2) (s2 := ⟨v, m⟩) (by rw [cVar_r, hv]; rfl) h.o hl ha]
  show (f (.c (a + 2) :: as) m).toR v = _
  rw [e]
  rfl
/-! ### the dict -/
def lyG (ly : List (Int × Int)) (b : Int) : Option Int := (ly.find? fun p => decide (p.1 = b)).map (·.2)
def lyX (ly : List (Int × Int)) (b : Int) : List (Int × Int) := ly.filter fun p => !decide (p.1 = b)
theorem lyK_get : ∀ (ly : List (Int × Int)) (b : Int), getD (lyK ly) (.inl b : L2.Key) = (lyG ly b).map PyData.int
  | [], _ => rfl
  | p :: ly, b => by
    have ih := lyK_get ly b
    unfold getD lyG lyK at ih ⊢
    rw [List.map_cons, List.find?_cons, List.find?_cons]
    by_cases q : p.1 = b
    · have q2 : (Sum.inl p.1 : L2.Key) = Sum.inl b := by rw [q]
      rw [decide_eq_true q, decide_eq_true q2]
      rfl
    · have q2 : ¬ (Sum.inl p.1 : L2.Key) = Sum.inl b := fun z => q (Sum.inl.inj z)
      rw [decide_eq_false q, decide_eq_false q2]
      exact ih
theorem lyK_drop (ly : List (Int × Int)) (b : Int) : dropD (lyK ly) (.inl b : L2.Key) = lyK (lyX ly b) := by
  unfold dropD lyK lyX
  rw [List.filter_map]
  congr 1
  refine List.filter_congr fun p _ => ?_
  by_cases q : p.1 = b
  · simp [q]
  · simp [q]
theorem lyK_put {ly : List (Int × Int)} {b x : Int} (h : lyG ly b = none) : putD (lyK ly) (.inl b : L2.Key) (.int x) = lyK (ly ++ [(b, x)]) := by
  have h1 : ((lyK ly).any fun kv => decide (kv.1 = (Sum.inl b : L2.Key))) = false := by
    rw [getD_any, lyK_get, h]
    rfl
  unfold putD
  rw [if_neg (by rw [h1]; decide)]
  unfold lyK
  rw [List.map_append]
  rfl
theorem it_k {kvs : List (L2.Key × D)} {b : Int} {d : D} (h : getD kvs (.inl b : L2.Key) = some d) : opItem (.c (.k kvs)) (.d (.int b)) = some (.d d) := by
  show (match (some (getD kvs (.inl b : L2.Key)) : Option (Option D)) with
    | some (some d) => some (Rv.d d)
    | _ => none) = _
  rw [h]
theorem it_kl {kvs : List (L2.Key × D)} {b : Int} {d : D} (h : getD kvs (.inl b : L2.Key) = some d) : opItem (.c (.g (.kl kvs))) (.d (.int b)) = some (.d d) := by
  show (match (some (getD kvs (.inl b : L2.Key)) : Option (Option D)) with
    | some (some d) => some (Rv.d d)
    | _ => none) = _
  rw [h]
theorem hasNot_k {kvs : List (L2.Key × D)} {b : Int} : opHasNot (.c (.k kvs)) (.d (.int b)) = some (.d (.bool (!(getD kvs (.inl b : L2.Key)).isSome))) := rfl
theorem len_k {kvs : List (L2.Key × D)} : opLen (.c (.k kvs)) = some (.d (.int kvs.length)) := rfl
theorem putIn_k {ly : List (Int × Int)} {b x : Int} (h : lyG ly b = none) (hl : ly.length < 1000) : putIn (.k (lyK ly)) (.int b) (.int x) = some (.k (lyK (ly ++ [(b, x)]))) := by
  show (if (lyK ly).length < 16000000 then some (Cell.k (putD (lyK ly) (.inl b : L2.Key) (.int x))) else none) = _
  rw [if_pos (by unfold lyK; rw [List.length_map]; omega), lyK_put h]
/-! ### stand -/
def stL (n : Nat) (ly : List (Int × Int)) : List Int := (List.range n).map fun b : Nat => ((ly.filter fun p => decide (p.2 = (b : Int))).length : Int)
theorem stL_len {n : Nat} {ly : List (Int × Int)} : (stL n ly).length = n := by
  unfold stL
  simp
theorem stL_at {n b : Nat} {ly : List (Int × Int)} (h : b < n) : (stL n ly)[b]? = some ((ly.filter fun p => decide (p.2 = (b : Int))).length : Int) := by
  unfold stL
  rw [List.getElem?_map, List.getElem?_range h]
  rfl
theorem stL_step {n : Nat} {ly : List (Int × Int)} {p : Int × Int} (h0 : 0 ≤ p.2) (h1 : p.2 < n) : stL n (ly ++ [p]) = (stL n ly).set p.2.toNat ((stL n ly).getD p.2.toNat 0 + 1) := by
  refine List.ext_getElem? fun i => ?_
  by_cases hi : i < n
  · rw [stL_at hi, List.filter_append, List.length_append]
    by_cases q : p.2.toNat = i
    · rw [q, List.getElem?_set_self (by rw [stL_len]; exact hi), List.getD_eq_getElem?_getD, stL_at hi]
      have e : p.2 = (i : Int) := by omega
      simp [e]
    · rw [List.getElem?_set_ne q, stL_at hi]
      have e : ¬ p.2 = (i : Int) := by omega
      simp [e]
  · rw [List.getElem?_eq_none (by rw [stL_len]; omega), List.getElem?_eq_none (by rw [List.length_set, stL_len]; omega)]
theorem stL_perm {n : Nat} {l1 l2 : List (Int × Int)} (h : l1.Perm l2) : stL n l1 = stL n l2 := by
  unfold stL
  refine List.map_congr_left fun b _ => ?_
  rw [(h.filter _).length_eq]
structure RmOk (R : Rm) : Prop where
  n0 : 1 ≤ R.n
  n6 : R.n ≤ 6
  box : ∀ p, p ∈ R.ly → 0 ≤ p.2 ∧ p.2 < R.n
  nd : (R.ly.map (·.1)).Nodup
  few : R.ly.length ≤ 60
theorem lyG_at {ly : List (Int × Int)} {i : Nat} {p : Int × Int} (nd : (ly.map (·.1)).Nodup) (h : ly[i]? = some p) : lyG ly p.1 = some p.2 := by
  induction ly generalizing i with
  | nil => simp at h
  | cons q ly ih =>
    rw [List.map_cons, List.nodup_cons] at nd
    unfold lyG
    rw [List.find?_cons]
    cases i with
    | zero =>
      cases h
      simp
    | succ i =>
      have h : ly[i]? = some p := by simpa using h
      have hq : ¬ q.1 = p.1 := fun z => nd.1 (by rw [z]; exact List.mem_map.mpr ⟨p, List.mem_of_getElem? h, rfl⟩)
      rw [decide_eq_false hq]
      exact ih nd.2 h
def cSt : CS := (cPutL (cVar 1) (cOp2 opItem (cFld "Room" "lying" (cVar 0)) (cVar 2)) (cOp2 opAdd (cOp2 opIx (cVar 1) (cOp2 opItem (cFld "Room" "lying" (cVar 0)) (cVar 2))) (cC (.int 1))))
def cStandR : CS :=
 (cSeq (cSetM 1 (cLc [3] (ciR1 (cFld "Room" "many" (cVar 0))) (tgN 3) ctYes (cC (.int 0))))
 (cSeq (lkS (pkF 0 "lying") (cFor (ciKeyL (cFld "Room" "lying" (cVar 0))) (tgN 2)
 (cPutL (cVar 1) (cOp2 opItem (cFld "Room" "lying" (cVar 0)) (cVar 2)) (cOp2 opAdd (cOp2 opIx (cVar 1) (cOp2 opItem (cFld "Room" "lying" (cVar 0)) (cVar 2))) (cC (.int 1))))))
 (cRet (cOp1 opTuple (cVar 1)))))
def fStandR : Fn := runF 4 cStandR
theorem ciKeyL_ok {c : CE} {s s1 : S} {n : Nat} {kvs : List (L2.Key × D)} (h : c s = .ok (.ref n) s1) (hm : s1.m[n]? = some (.g (.kl kvs))) : ciKeyL c s = .ok (kvs.map fun p => kD p.1) s1 := by
  unfold ciKeyL
  rw [cv_s, h, bind_ok, frz_ref, bind_ok]
  dsimp only
  rw [hm]
theorem set_same {α : Type} {m : List α} {a : Nat} {c : α} (h : m[a]? = some c) : m.set a c = m := by
  refine List.ext_getElem? fun i => ?_
  by_cases q : a = i
  · subst q
    rw [List.getElem?_set_self (List.getElem?_eq_some_iff.mp h).1, h]
  · rw [List.getElem?_set_ne q]
theorem st_body {L : Nat} {m : List Cell} {a : Nat} {R : Rm} {cs : List Int} {p : Int × Int} {v2 v3 : Sl} (hL : m[L]? = some (.l (cs.map PyData.int))) (ho : m[a + 2]? = some (.g (.o "Room" (roomF (.int R.n) a (a + 1) R.z)))) (hl : m[a]? = some (.g (.kl (lyK R.ly)))) (hp : lyG R.ly p.1 = some p.2) (h0 : 0 ≤ p.2) (h1 : p.2 < cs.length) :
    cSt ⟨[.c (a + 2), .c L, .d (.int p.1), v3], m⟩ = .nx ⟨[.c (a + 2), .c L, .d (.int p.1), v3], m.set L (.l ((cs.set p.2.toNat (cs.getD p.2.toNat 0 + 1)).map PyData.int))⟩ := by
  have hf : cFld "Room" "lying" (cVar 0) ⟨[.c (a + 2), .c L, .d (.int p.1), v3], m⟩ = .ok (.ref a) ⟨[.c (a + 2), .c L, .d (.int p.1), v3], m⟩ := cFld_ok (n := a + 2) rfl ho roomF_lying
  have it : opItem (.c (.g (.kl (lyK R.ly)))) (.d (.int p.1)) = some (.d (.int p.2)) := it_kl (by rw [lyK_get, hp]; rfl)
  have ab := at_box h0 h1
  have pu := putLR_s (n := L) (k := p.2) (v := .int (cs.getD p.2.toNat 0 + 1)) (s3 := ⟨[.c (a + 2), .c L, .d (.int p.1), v3], m⟩) hL h0 (by rw [List.length_map]; exact h1)
  have es : (cs.map PyData.int).set p.2.toNat (.int (cs.getD p.2.toNat 0 + 1)) = (cs.set p.2.toNat (cs.getD p.2.toNat 0 + 1)).map PyData.int := by rw [List.map_set]
  rw [es] at pu
  simp [-List.getD_eq_getElem?_getD, cSt, hf, hl, hL, it, ab, pu]
theorem standR_ok {m : List Cell} {a : Nat} {R : Rm} (h : InRm m a R) (k : RmOk R) : fStandR [.c (a + 2)] m = .ok (.d (tupD (stL R.n R.ly))) m := by
  have hlt := h.lt
  have zeros : cLc [3] (ciR1 (cFld "Room" "many" (cVar 0))) (tgN 3) ctYes (cC (.int 0)) ⟨[.c (a + 2), .u, .u, .u], m⟩ = .ok (.new (.l ((stL R.n []).map PyData.int))) ⟨[.c (a + 2), .u, .u, .u], m⟩ := by
    have e := lc_all (own := [3]) (ci := ciR1 (cFld "Room" "many" (cVar 0))) (tg := tgN 3) (el := cC (.int 0)) (s := ⟨[.c (a + 2), .u, .u, .u], m⟩) (s1 := ⟨[.c (a + 2), .u, .u, .u], m⟩) (ds := rangeD 0 R.n) (fun _ => .int 0)
      (by rw [ciR1_s (n := R.n) (fld_many h rfl) (by omega) (by have := k.n6; omega)]; rfl) (by rw [rangeD_len]; have := k.n6; omega) fun d hd => ⟨_, rfl, _, rfl⟩
    rw [e]
    congr 2
    refine congrArg Cell.l ?_
    refine List.ext_getElem? fun i => ?_
    unfold stL
    by_cases hi : i < R.n
    · simp [hi, rangeD_at R.n 0 i hi]
    · simp [hi, rangeD_len]
  have m1l : (m ++ [Cell.l ((stL R.n []).map PyData.int)])[m.length]? = some (.l ((stL R.n []).map PyData.int)) := by simp
  have A := h.app [Cell.l ((stL R.n []).map PyData.int)]
  have hal : a < (m ++ [Cell.l ((stL R.n []).map PyData.int)]).length := by rw [List.length_append]; omega
  let M : List Int → List Cell := fun cs => (m.set a (.g (.kl (lyK R.ly)))) ++ [Cell.l (cs.map PyData.int)]
  have eM : ∀ cs : List Int, (m ++ [Cell.l (cs.map PyData.int)]).set a (.g (.kl (lyK R.ly))) = M cs := fun cs => List.set_append_left _ _ (by omega)
  have Mo : ∀ cs, (M cs)[a + 2]? = some (.g (.o "Room" (roomF (.int R.n) a (a + 1) R.z))) := fun cs => by
    show ((m.set a (.g (.kl (lyK R.ly)))) ++ [Cell.l (cs.map PyData.int)])[a + 2]? = _
    rw [List.getElem?_append_left (by rw [List.length_set]; omega)]
    exact set_ne' h.o (by omega)
  have Ml : ∀ cs, (M cs)[a]? = some (.g (.kl (lyK R.ly))) := fun cs => by
    show ((m.set a (.g (.kl (lyK R.ly)))) ++ [Cell.l (cs.map PyData.int)])[a]? = _
    rw [List.getElem?_append_left (by rw [List.length_set]; omega)]
    exact List.getElem?_set_self (by omega)
  have ML : ∀ cs, (M cs)[m.length]? = some (.l (cs.map PyData.int)) := fun cs => by
    show ((m.set a (.g (.kl (lyK R.ly)))) ++ [Cell.l (cs.map PyData.int)])[m.length]? = _
    rw [List.getElem?_append_right (by rw [List.length_set]; exact Nat.le_refl _), List.length_set, Nat.sub_self]
    rfl
  have MS : ∀ cs cs', (M cs).set m.length (.l (cs'.map PyData.int)) = M cs' := fun cs cs' => by
    show ((m.set a (.g (.kl (lyK R.ly)))) ++ [Cell.l (cs.map PyData.int)]).set m.length _ = _
    rw [List.set_append_right _ _ (by rw [List.length_set]; exact Nat.le_refl _), List.length_set, Nat.sub_self]
    rfl
  obtain ⟨s', e, v2, rfl⟩ := forL_inv (tg := tgN 2) (body := cSt) (ds := (lyK R.ly).map fun p => kD p.1) (fun i s => ∃ v2 : Sl, s = ⟨[.c (a + 2), .c m.length, v2, .u], M (stL R.n (R.ly.take i))⟩)
    (s := ⟨[.c (a + 2), .c m.length, .u, .u], M (stL R.n [])⟩) ⟨_, rfl⟩ fun i s d hd hi => by
      obtain ⟨v2, rfl⟩ := hi
      rw [List.getElem?_map] at hd
      obtain ⟨e, he, rfl⟩ := Option.map_eq_some_iff.mp hd
      unfold lyK at he
      rw [List.getElem?_map] at he
      obtain ⟨p, hp, rfl⟩ := Option.map_eq_some_iff.mp he
      have bx := k.box p (List.mem_of_getElem? hp)
      have t := st_body (L := m.length) (m := M (stL R.n (R.ly.take i))) (a := a) (R := R) (cs := stL R.n (R.ly.take i)) (p := p) (v2 := v2) (v3 := .u) (ML _) (Mo _) (Ml _) (lyG_at k.nd hp) bx.1 (by rw [stL_len]; exact bx.2)
      rw [MS, ← stL_step bx.1 bx.2] at t
      have e3 : R.ly.take i ++ [p] = R.ly.take (i + 1) := by
        rw [List.take_add_one, hp]
        rfl
      rw [e3] at t
      exact ⟨_, _, rfl, .inl t, _, rfl⟩
  rw [List.length_map, show (lyK R.ly).length = R.ly.length from List.length_map .., List.take_length] at e
  have lk : lkS (pkF 0 "lying") (cFor (ciKeyL (cFld "Room" "lying" (cVar 0))) (tgN 2) cSt) ⟨[.c (a + 2), .c m.length, .u, .u], m ++ [Cell.l ((stL R.n []).map PyData.int)]⟩ = .nx ⟨[.c (a + 2), .c m.length, v2, .u], m ++ [Cell.l ((stL R.n R.ly).map PyData.int)]⟩ := by
    have pk : pkF 0 "lying" ⟨[.c (a + 2), .c m.length, .u, .u], m ++ [Cell.l ((stL R.n []).map PyData.int)]⟩ = some a := by
      unfold pkF
      show (match (m ++ [Cell.l ((stL R.n []).map PyData.int)])[a + 2]? with
        | some (.g (.o _ fs)) => (match fs.lookup ("lying" : Str) with
          | some (.c k) => some k
          | _ => none)
        | some (.g (.w fs)) => (match fs.lookup ("lying" : Str) with
          | some (.c k) => some k
          | _ => none)
        | _ => none) = some a
      rw [A.o]
      rfl
    have hf : cFld "Room" "lying" (cVar 0) ⟨[.c (a + 2), .c m.length, .u, .u], M (stL R.n [])⟩ = .ok (.ref a) ⟨[.c (a + 2), .c m.length, .u, .u], M (stL R.n [])⟩ := cFld_ok (n := a + 2) rfl (Mo _) roomF_lying
    have ck : ciKeyL (cFld "Room" "lying" (cVar 0)) ⟨[.c (a + 2), .c m.length, .u, .u], M (stL R.n [])⟩ = .ok ((lyK R.ly).map fun p => kD p.1) ⟨[.c (a + 2), .c m.length, .u, .u], M (stL R.n [])⟩ := by
      exact ciKeyL_ok hf (Ml _)
    unfold lkS
    rw [pk]
    dsimp only
    rw [A.l]
    dsimp only
    rw [eM, cFor_s, ck, out_ok, e]
    dsimp only
    rw [Ml]
    dsimp only
    congr 2
    show ((m.set a (.g (.kl (lyK R.ly)))) ++ [Cell.l ((stL R.n R.ly).map PyData.int)]).set a (.k (lyK R.ly)) = _
    rw [List.set_append_left _ _ (by rw [List.length_set]; omega), List.set_set]
    congr 1
    exact set_same h.l
  have hc : cStandR = (cSeq (cSetM 1 (cLc [3] (ciR1 (cFld "Room" "many" (cVar 0))) (tgN 3) ctYes (cC (.int 0)))) (cSeq (lkS (pkF 0 "lying") (cFor (ciKeyL (cFld "Room" "lying" (cVar 0))) (tgN 2) cSt)) (cRet (cOp1 opTuple (cVar 1))))) := rfl
  have to : ∀ ns : List Int, opTuple (.d (.list (ns.map PyData.int))) = some (.d (tupD ns)) := fun _ => rfl
  unfold fStandR
  rw [runF_s, hc]
  simp [zeros, lk, to]
end Vm
namespace Vm
open PySem L2
/-! ### a room's other methods -/
def cWhereR : CS :=
 (cSeq (cIfS (tOr' (tNot' (cTru (cCallP fWhole (lCons (cVar 1) lNil)))) (cB (cOp2r opHasNot (cVar 1) (cFld "Room" "lying" (cVar 0)))))
 (cRaise "NoBall")
 cNx)
 (cRet (cOp2 opItem (cFld "Room" "lying" (cVar 0)) (cVar 1))))
def fWhereR : Fn := runF 2 cWhereR
theorem whole_n {d : D} : fWhole [.d d] [] = .ok (.d (.bool (isInt d))) [] := whole_d
theorem where_ok {m : List Cell} {a : Nat} {R : Rm} (h : InRm m a R) {b x : Int} (hb : lyG R.ly b = some x) : fWhereR [.c (a + 2), .d (.int b)] m = .ok (.d (.int x)) m := by
  have hf : ∀ v : List Sl, v[0]? = some (.c (a + 2)) → cFld "Room" "lying" (cVar 0) ⟨v, m⟩ = .ok (.ref a) ⟨v, m⟩ := fun v hv => fld_lying h hv
  have hl := h.l
  have e1 : getD (lyK R.ly) (.inl b : L2.Key) = some (.int x) := by rw [lyK_get, hb]; rfl
  have it := it_k e1
  have hn : opHasNot (.c (.k (lyK R.ly))) (.d (.int b)) = some (.d (.bool false)) := by rw [hasNot_k, e1]; rfl
  have w := whole_n (d := .int b)
  have wi : isInt (.int b) = true := rfl
  unfold fWhereR
  rw [runF_s]
  simp [cWhereR, hf, hl, it, hn, w, wi]
theorem where_no {m : List Cell} {a : Nat} {R : Rm} (h : InRm m a R) {d : D} (hb : ∀ b, d = .int b → lyG R.ly b = none) : fWhereR [.c (a + 2), .d d] m = .ex "NoBall" m := by
  have hf : ∀ v : List Sl, v[0]? = some (.c (a + 2)) → cFld "Room" "lying" (cVar 0) ⟨v, m⟩ = .ok (.ref a) ⟨v, m⟩ := fun v hv => fld_lying h hv
  have hl := h.l
  have w := whole_n (d := d)
  unfold fWhereR
  rw [runF_s]
  cases q : isInt d with
  | false =>
    rw [q] at w
    simp [cWhereR, w]
  | true =>
    rw [q] at w
    cases d with
    | int b =>
      have hn : opHasNot (.c (.k (lyK R.ly))) (.d (.int b)) = some (.d (.bool true)) := by rw [hasNot_k, lyK_get, hb b rfl]; rfl
      simp [cWhereR, hf, hl, hn, w]
    | _ => cases q
def cLeaveR : CS :=
 (cSeq (cSet 2 (cMeth "Room" "where" fWhereR (cVar 0) (lCons (cVar 1) lNil)))
 (cSeq (cExp (cDPop (cFld "Room" "lying" (cVar 0)) (cVar 1)))
 (cSeq (cExp (cMut fApp (cFld "Room" "past" (cVar 0)) (cCons (cTup (cCons (cC (.bool false)) (cCons (cVar 1) (cCons (cVar 2) cNil)))) cNil)))
 (cRet (cVar 2)))))
def fLeaveR : Fn := runF 3 cLeaveR
theorem dpop_ok {co ck : CE} {s s1 s2 : S} {n : Nat} {ly : List (Int × Int)} {b x : Int} (h : co s = .ok (.ref n) s1) (h2 : cv ck s1 = .ok (.d (.int b)) s2) (hm1 : s1.m[n]? = some (.k (lyK ly))) (hm : s2.m[n]? = some (.k (lyK ly))) (hb : lyG ly b = some x) : cDPop co ck s = .ok (.d (.int x)) ⟨s2.v, s2.m.set n (.k (lyK (lyX ly b)))⟩ := by
  have e1 : getD (lyK ly) (.inl b : L2.Key) = some (.int x) := by rw [lyK_get, hb]; rfl
  have e2 := lyK_drop ly b
  unfold cDPop
  rw [cv_s, h, bind_ok, frz_ref, bind_ok]
  dsimp only
  rw [hm1]
  dsimp only
  rw [h2, bind_ok]
  dsimp only [keyOf]
  rw [hm]
  dsimp only
  rw [e1]
  dsimp only
  rw [e2]
theorem off2 {a : Nat} {m : List Cell} {c c' : Cell} : Off3 a m ((m.set a c).set (a + 1) c') := (Off3.set (.inl rfl)).trans (Off3.set (.inr (.inl rfl)))
theorem take_off {a : Nat} {m m' : List Cell} (h : Off3 a m m') : m'.take m.length = m' := by
  rw [← h.len, List.take_length]
theorem lookR_where {x : D} {k q : Nat} {z : Int} : ((roomF x k q z).lookup ("where" : Str)).isNone = true := rfl
theorem lookR_stand {x : D} {k q : Nat} {z : Int} : ((roomF x k q z).lookup ("stand" : Str)).isNone = true := rfl
theorem lookR_put {x : D} {k q : Nat} {z : Int} : ((roomF x k q z).lookup ("put" : Str)).isNone = true := rfl
theorem lookR_leave {x : D} {k q : Nat} {z : Int} : ((roomF x k q z).lookup ("leave" : Str)).isNone = true := rfl
theorem lookR_back {x : D} {k q : Nat} {z : Int} : ((roomF x k q z).lookup ("back" : Str)).isNone = true := rfl
theorem lookR_load {x : D} {k q : Nat} {z : Int} : ((roomF x k q z).lookup ("load" : Str)).isNone = true := rfl
theorem leaveR_ok {m : List Cell} {a : Nat} {R : Rm} (h : InRm m a R) {b x : Int} (hb : lyG R.ly b = some x) (hp : R.ps.length < 100000) :
    ∃ m', fLeaveR [.c (a + 2), .d (.int b)] m = .ok (.d (.int x)) m' ∧ Off3 a m m' ∧ InRm m' a { R with ly := lyX R.ly b, ps := R.ps ++ [(false, b, x)] } := by
  have h1 := h.setL (lyX R.ly b)
  have h2 := h1.setP (R.ps ++ [(false, b, x)])
  refine ⟨_, ?_, off2, h2⟩
  have w : cMeth "Room" "where" fWhereR (cVar 0) (lCons (cVar 1) lNil) ⟨[.c (a + 2), .d (.int b), .u], m⟩ = .ok (.d (.int x)) ⟨[.c (a + 2), .d (.int b), .u], m⟩ := meth_rm (as := [.d (.int b)]) h rfl lookR_where (by simp) (where_ok h hb)
  have pp : cDPop (cFld "Room" "lying" (cVar 0)) (cVar 1) ⟨[.c (a + 2), .d (.int b), .d (.int x)], m⟩ = .ok (.d (.int x)) ⟨[.c (a + 2), .d (.int b), .d (.int x)], m.set a (.k (lyK (lyX R.ly b)))⟩ := dpop_ok (s1 := ⟨[.c (a + 2), .d (.int b), .d (.int x)], m⟩) (s2 := ⟨[.c (a + 2), .d (.int b), .d (.int x)], m⟩) (n := a) (fld_lying h rfl) (by simp) h.l h.l hb
  have hf := fld_past h1 (i := 0) (v := [.c (a + 2), .d (.int b), .d (.int x)]) rfl
  have hP := h1.p
  have ap := fApp_s (xs := R.ps.map deedD) (d := .tuple [.bool false, .int b, .int x]) (by rw [List.length_map]; omega)
  have ea : R.ps.map deedD ++ [.tuple [.bool false, .int b, .int x]] = (R.ps ++ [(false, b, x)]).map deedD := by rw [List.map_append]; rfl
  rw [ea] at ap
  have tk := take_off (m := m) (off2 (a := a) (c := .k (lyK (lyX R.ly b))) (c' := .l ((R.ps ++ [(false, b, x)]).map deedD)))
  unfold fLeaveR
  rw [runF_s]
  simp [-List.map_append, cLeaveR, w, pp, hf, hP, ap, tk]
theorem leaveR_no {m : List Cell} {a : Nat} {R : Rm} (h : InRm m a R) {d : D} (hb : ∀ b, d = .int b → lyG R.ly b = none) : fLeaveR [.c (a + 2), .d d] m = .ex "NoBall" m := by
  have w : cMeth "Room" "where" fWhereR (cVar 0) (lCons (cVar 1) lNil) ⟨[.c (a + 2), .d d, .u], m⟩ = .ex "NoBall" ⟨[.c (a + 2), .d d, .u], m⟩ := meth_rmX (as := [.d d]) h rfl lookR_where (by simp) (where_no h hb)
  unfold fLeaveR
  rw [runF_s]
  simp [cLeaveR, w]
def cPutR : CS :=
 (cSeq (cIfS (cB (cOp2 opEq (cOp1 opLen (cFld "Room" "lying" (cVar 0))) (cC (.int 60))))
 (cRaise "TooMany")
 cNx)
 (cSeq (cSet 2 (cCallP fChosen (lCons (cMeth "Room" "stand" fStandR (cVar 0) lNil) (lCons (cVar 1) lNil))))
 (cSeq (cSet 3 (cFld "Room" "known" (cVar 0)))
 (cSeq (cFldPut "Room" "known" (cVar 0) (cOp2 opAdd (cVar 3) (cC (.int 1))))
 (cSeq (cPut (cFld "Room" "lying" (cVar 0)) (cVar 3) (cVar 2))
 (cSeq (cExp (cMut fApp (cFld "Room" "past" (cVar 0)) (cCons (cTup (cCons (cC (.bool true)) (cCons (cVar 3) (cCons (cVar 2) cNil)))) cNil)))
 (cRet (cTup (cCons (cVar 3) (cCons (cVar 2) cNil))))))))))
def fPutR : Fn := runF 4 cPutR
theorem off3 {a : Nat} {m : List Cell} {c c' c'' : Cell} : Off3 a m (((m.set (a + 2) c).set a c').set (a + 1) c'') := ((Off3.set (.inr (.inr rfl))).trans (Off3.set (.inl rfl))).trans (Off3.set (.inr (.inl rfl)))
theorem put_ok2 {m : List Cell} {a : Nat} {R : Rm} (h : InRm m a R) (k : RmOk R) {bs : List Int} (hb : DrawOk R.n bs) (hl : R.ly.length < 60) (hz : lyG R.ly R.z = none) (hp : R.ps.length < 100000) :
    ∃ m', fPutR [.c (a + 2), .d (tupD bs)] m = .ok (.d (.tuple [.int R.z, .int (chF (stL R.n R.ly) bs)])) m' ∧ Off3 a m m' ∧ InRm m' a { n := R.n, ly := R.ly ++ [(R.z, chF (stL R.n R.ly) bs)], z := R.z + 1, ps := R.ps ++ [(true, R.z, chF (stL R.n R.ly) bs)] } := by
  let x : Int := chF (stL R.n R.ly) bs
  have h1 := h.setZ (R.z + 1)
  have h2 := h1.setL (R.ly ++ [(R.z, x)])
  have h3 := h2.setP (R.ps ++ [(true, R.z, x)])
  refine ⟨_, ?_, off3, h3⟩
  have hf := fld_lying h (i := 0) (v := [.c (a + 2), .d (tupD bs), .u, .u]) rfl
  have hl1 := h.l
  have ln : opLen (.c (.k (lyK R.ly))) = some (.d (.int R.ly.length)) := by
    rw [len_k]
    unfold lyK
    rw [List.length_map]
  have l60 : ¬ ((R.ly.length : Int) = 60) := by omega
  have st : cMeth "Room" "stand" fStandR (cVar 0) lNil ⟨[.c (a + 2), .d (tupD bs), .u, .u], m⟩ = .ok (.d (tupD (stL R.n R.ly))) ⟨[.c (a + 2), .d (tupD bs), .u, .u], m⟩ := meth_rm (as := []) h rfl lookR_stand (by simp) (standR_ok h k)
  have ch : fChosen [.d (tupD (stL R.n R.ly)), .d (tupD bs)] [] = .ok (.d (.int x)) [] := chosen_t (by rw [stL_len]; exact hb) []
  have hk := fld_known h (i := 0) (v := [.c (a + 2), .d (tupD bs), .d (.int x), .u]) rfl
  have pz : cFldPut "Room" "known" (cVar 0) (cOp2 opAdd (cVar 3) (cC (.int 1))) ⟨[.c (a + 2), .d (tupD bs), .d (.int x), .d (.int R.z)], m⟩ = .nx ⟨[.c (a + 2), .d (tupD bs), .d (.int x), .d (.int R.z)], m.set (a + 2) (.g (.o "Room" (roomF (.int R.n) a (a + 1) (R.z + 1))))⟩ := by
    have e := cFldPut_ok (C := "Room") (f := "known") (co := cVar 0) (c := cOp2 opAdd (cVar 3) (cC (.int 1))) (s := ⟨[.c (a + 2), .d (tupD bs), .d (.int x), .d (.int R.z)], m⟩) (s1 := ⟨[.c (a + 2), .d (tupD bs), .d (.int x), .d (.int R.z)], m⟩) (s2 := ⟨[.c (a + 2), .d (tupD bs), .d (.int x), .d (.int R.z)], m⟩) (n := a + 2) (x := .int (R.z + 1)) (by simp) (by simp) h.o (by show 4 < 1000; decide)
    rw [roomF_put] at e
    exact e
  have hf1 := fld_lying h1 (i := 0) (v := [.c (a + 2), .d (tupD bs), .d (.int x), .d (.int R.z)]) rfl
  have hL := h1.l
  have pi := putIn_k (x := x) hz (by omega)
  have pR := putR_s (n := a) (k := .int R.z) (v := .int x) (s3 := ⟨[.c (a + 2), .d (tupD bs), .d (.int x), .d (.int R.z)], m.set (a + 2) (.g (.o "Room" (roomF (.int R.n) a (a + 1) (R.z + 1))))⟩) hL
  have hf2 := fld_past h2 (i := 0) (v := [.c (a + 2), .d (tupD bs), .d (.int x), .d (.int R.z)]) rfl
  have hP := h2.p
  have ap := fApp_s (xs := R.ps.map deedD) (d := .tuple [.bool true, .int R.z, .int x]) (by rw [List.length_map]; omega)
  have ea : R.ps.map deedD ++ [.tuple [.bool true, .int R.z, .int x]] = (R.ps ++ [(true, R.z, x)]).map deedD := by rw [List.map_append]; rfl
  rw [ea] at ap
  have tk := take_off (m := m) (off3 (a := a) (c := .g (.o "Room" (roomF (.int R.n) a (a + 1) (R.z + 1)))) (c' := .k (lyK (R.ly ++ [(R.z, x)]))) (c'' := .l ((R.ps ++ [(true, R.z, x)]).map deedD)))
  show fPutR [.c (a + 2), .d (tupD bs)] m = .ok (.d (.tuple [.int R.z, .int x])) _
  unfold fPutR
  rw [runF_s]
  simp [-List.map_append, cPutR, hf, hl1, ln, l60, st, ch, hk, pz, hf1, pR, pi, hf2, hP, ap, tk]
theorem put_no {m : List Cell} {a : Nat} {R : Rm} (h : InRm m a R) {d : D} (hl : R.ly.length = 60) : fPutR [.c (a + 2), .d d] m = .ex "TooMany" m := by
  have hf := fld_lying h (i := 0) (v := [.c (a + 2), .d d, .u, .u]) rfl
  have hl1 := h.l
  have ln : opLen (.c (.k (lyK R.ly))) = some (.d (.int R.ly.length)) := by
    rw [len_k]
    unfold lyK
    rw [List.length_map]
  unfold fPutR
  rw [runF_s]
  simp [cPutR, hf, hl1, ln, hl]
def cBackR : CS :=
 (cSeq (cIfS (cB (cOp2 opEq (cFld "Room" "past" (cVar 0)) (cLst cNil)))
 (cRaise "NoBack")
 cNx)
 (cSeq (cAsg (tgTup 3 (tgCons (tgN 1) (tgCons (tgN 2) (tgCons (tgN 3) tgNil)))) (cMut fPop (cFld "Room" "past" (cVar 0)) cNil))
 (cSeq (cIfS (cTru (cVar 1))
 (cExp (cDPop (cFld "Room" "lying" (cVar 0)) (cVar 2)))
 (cPut (cFld "Room" "lying" (cVar 0)) (cVar 2) (cVar 3)))
 (cRet (cVar 2)))))
def fBackR : Fn := runF 4 cBackR
theorem okd_deeds (ps : List (Bool × Int × Int)) : okd (.list (ps.map deedD)) = true := (okd_seq fun d hd => by
  obtain ⟨p, _, rfl⟩ := List.mem_map.mp hd
  obtain ⟨c, b, x⟩ := p
  refine ⟨rfl, ?_⟩
  show PyData.depth (.tuple [.bool c, .int b, .int x]) ≤ 59
  simp [PyData.depth, PyData.depthAll]).1
theorem back_no {m : List Cell} {a : Nat} {R : Rm} (h : InRm m a R) (hp : R.ps = []) : fBackR [.c (a + 2)] m = .ex "NoBack" m := by
  have hf := fld_past h (i := 0) (v := [.c (a + 2), .u, .u, .u]) rfl
  have hP := h.p
  rw [hp] at hP
  have eq : opEq (.d (.list [])) (.d (.list [])) = some (.d (.bool true)) := rfl
  have hP : m[a + 1]? = some (.l []) := hP
  unfold fBackR
  rw [runF_s]
  simp [cBackR, hf, hP, eq]
theorem offB {a : Nat} {m : List Cell} {c c' : Cell} : Off3 a m ((m.set (a + 1) c).set a c') := (Off3.set (.inr (.inl rfl))).trans (Off3.set (.inl rfl))
theorem fPop_deed {ps : List (Bool × Int × Int)} {d : Bool × Int × Int} : fPop ((ps ++ [d]).map deedD) [] = some (deedD d, ps.map deedD) := by
  unfold fPop
  rw [List.map_append]
  simp
theorem back_come {m : List Cell} {a : Nat} {R : Rm} (h : InRm m a R) {ps : List (Bool × Int × Int)} {b x y : Int} (hp : R.ps = ps ++ [(true, b, x)]) (hb : lyG R.ly b = some y) :
    ∃ m', fBackR [.c (a + 2)] m = .ok (.d (.int b)) m' ∧ Off3 a m m' ∧ InRm m' a { R with ly := lyX R.ly b, ps := ps } := by
  have h1 := h.setP ps
  have h2 := h1.setL (lyX R.ly b)
  refine ⟨_, ?_, offB, h2⟩
  have hf := fld_past h (i := 0) (v := [.c (a + 2), .u, .u, .u]) rfl
  have hP := h.p
  have eq := opEq_nilJ (okd_deeds R.ps)
  have ne : (R.ps.map deedD).isEmpty = false := by rw [hp]; simp
  rw [ne] at eq
  have pq : fPop (R.ps.map deedD) [] = some (deedD (true, b, x), ps.map deedD) := by rw [hp]; exact fPop_deed
  have pp : cDPop (cFld "Room" "lying" (cVar 0)) (cVar 2) ⟨[.c (a + 2), .d (.bool true), .d (.int b), .d (.int x)], m.set (a + 1) (.l (ps.map deedD))⟩ = .ok (.d (.int y)) ⟨[.c (a + 2), .d (.bool true), .d (.int b), .d (.int x)], (m.set (a + 1) (.l (ps.map deedD))).set a (.k (lyK (lyX R.ly b)))⟩ := dpop_ok (s1 := ⟨[.c (a + 2), .d (.bool true), .d (.int b), .d (.int x)], m.set (a + 1) (.l (ps.map deedD))⟩) (s2 := ⟨[.c (a + 2), .d (.bool true), .d (.int b), .d (.int x)], m.set (a + 1) (.l (ps.map deedD))⟩) (n := a) (fld_lying h1 rfl) (by simp) h1.l h1.l hb
  have tk := take_off (m := m) (offB (a := a) (c := .l (ps.map deedD)) (c' := .k (lyK (lyX R.ly b))))
  unfold fBackR
  rw [runF_s]
  simp [cBackR, hf, hP, eq, pq, deedD, asg_3, pp, tk]
theorem back_gone {m : List Cell} {a : Nat} {R : Rm} (h : InRm m a R) {ps : List (Bool × Int × Int)} {b x : Int} (hp : R.ps = ps ++ [(false, b, x)]) (hb : lyG R.ly b = none) (hl : R.ly.length < 1000) :
    ∃ m', fBackR [.c (a + 2)] m = .ok (.d (.int b)) m' ∧ Off3 a m m' ∧ InRm m' a { R with ly := R.ly ++ [(b, x)], ps := ps } := by
  have h1 := h.setP ps
  have h2 := h1.setL (R.ly ++ [(b, x)])
  refine ⟨_, ?_, offB, h2⟩
  have hf := fld_past h (i := 0) (v := [.c (a + 2), .u, .u, .u]) rfl
  have hP := h.p
  have eq := opEq_nilJ (okd_deeds R.ps)
  have ne : (R.ps.map deedD).isEmpty = false := by rw [hp]; simp
  rw [ne] at eq
  have pq : fPop (R.ps.map deedD) [] = some (deedD (false, b, x), ps.map deedD) := by rw [hp]; exact fPop_deed
  have hf1 := fld_lying h1 (i := 0) (v := [.c (a + 2), .d (.bool false), .d (.int b), .d (.int x)]) rfl
  have pi := putIn_k (x := x) hb hl
  have pR := putR_s (n := a) (k := .int b) (v := .int x) (s3 := ⟨[.c (a + 2), .d (.bool false), .d (.int b), .d (.int x)], m.set (a + 1) (.l (ps.map deedD))⟩) h1.l
  have tk := take_off (m := m) (offB (a := a) (c := .l (ps.map deedD)) (c' := .k (lyK (R.ly ++ [(b, x)]))))
  unfold fBackR
  rw [runF_s]
  simp [cBackR, hf, hP, eq, pq, deedD, asg_3, hf1, pR, pi, tk]
def cSortedT : CS :=
 (cRet (cOp1 opTuple (cOp1 opSortTD (cVar 0))))
def fSortedT : Fn := runF 1 cSortedT
def cLoadR : CS :=
 (cRet (cCallP fSortedT (lCons (cMeth "Room" "stand" fStandR (cVar 0) lNil) lNil)))
def fLoadR : Fn := runF 1 cLoadR
theorem sortedT_ok {ns : List Int} : fSortedT [.d (tupD ns)] [] = .ok (.d (tupD (sortD ns))) [] := by
  have so : opSortTD (.d (tupD ns)) = some (.new (.l ((sortD ns).map PyData.int))) := by
    show (ints? (ns.map PyData.int)).bind (fun ns => some (Rv.new (.l ((sortD ns).map PyData.int)))) = _
    rw [ints?_map]
    rfl
  unfold fSortedT
  rw [runF_s]
  simp [cSortedT, so]
  rfl
theorem load_ok2 {m : List Cell} {a : Nat} {R : Rm} (h : InRm m a R) (k : RmOk R) : fLoadR [.c (a + 2)] m = .ok (.d (tupD (sortD (stL R.n R.ly)))) m := by
  have st : cMeth "Room" "stand" fStandR (cVar 0) lNil ⟨[.c (a + 2)], m⟩ = .ok (.d (tupD (stL R.n R.ly))) ⟨[.c (a + 2)], m⟩ := meth_rm (as := []) h rfl lookR_stand (by simp) (standR_ok h k)
  have so := sortedT_ok (ns := stL R.n R.ly)
  unfold fLoadR
  rw [runF_s]
  simp [cLoadR, st, so]
/-- a room just made -/
theorem mk_room {m : List Cell} {n : Nat} : InRm (m ++ [.k [], .l [], .g (.o "Room" (roomF (.int n) m.length (m.length + 1) 0))]) m.length ⟨n, [], 0, []⟩ :=
  ⟨by rw [List.getElem?_append_right (by omega), Nat.add_sub_cancel_left]; rfl, by rw [List.getElem?_append_right (by omega), Nat.sub_self]; rfl, by rw [List.getElem?_append_right (by omega), Nat.add_sub_cancel_left]; rfl⟩
end Vm
namespace Vm
open PySem L2
/-! ### what a room's deeds leave -/
abbrev Deed := Bool × Int × Int
def stepH (ly : List (Int × Int)) (d : Deed) : List (Int × Int) := if d.1 = true then ly ++ [(d.2.1, d.2.2)] else lyX ly d.2.1
def rep (ps : List Deed) : List (Int × Int) := ps.foldl stepH []
theorem rep_come (ps : List Deed) (b x : Int) : rep (ps ++ [(true, b, x)]) = rep ps ++ [(b, x)] := by
  unfold rep
  rw [List.foldl_append]
  rfl
theorem rep_gone (ps : List Deed) (b x : Int) : rep (ps ++ [(false, b, x)]) = lyX (rep ps) b := by
  unfold rep
  rw [List.foldl_append]
  rfl
inductive Hs (n : Nat) (z : Int) : List Deed → List (Int × Int) → Prop
  | nil : Hs n z [] []
  | come {ps : List Deed} {ly : List (Int × Int)} {b x : Int} : Hs n z ps ly → 0 ≤ b → b < z → 0 ≤ x → x < n → lyG ly b = none → ly.length < 60 → Hs n z (ps ++ [(true, b, x)]) (ly ++ [(b, x)])
  | gone {ps : List Deed} {ly : List (Int × Int)} {b x : Int} : Hs n z ps ly → lyG ly b = some x → Hs n z (ps ++ [(false, b, x)]) (lyX ly b)
  | perm {ps : List Deed} {ly ly' : List (Int × Int)} : Hs n z ps ly → ly.Perm ly' → Hs n z ps ly'
variable {n : Nat} {z : Int} {ps : List Deed} {ly : List (Int × Int)} {b x : Int}
theorem lyG_none : lyG ly b = none ↔ ∀ p, p ∈ ly → p.1 ≠ b := by
  unfold lyG
  rw [Option.map_eq_none_iff, List.find?_eq_none]
  constructor
  · intro h p hp
    simpa using h p hp
  · intro h p hp
    simpa using h p hp
theorem lyG_mem (h : lyG ly b = some x) : (b, x) ∈ ly := by
  unfold lyG at h
  obtain ⟨p, e, q⟩ := Option.map_eq_some_iff.mp h
  have h1 := List.find?_some e
  have h2 := List.mem_of_find?_eq_some e
  obtain ⟨p1, p2⟩ := p
  have h1 : p1 = b := by simpa using h1
  have q : p2 = x := q
  rw [← h1, ← q]
  exact h2
theorem lyG_of (nd : (ly.map (·.1)).Nodup) (h : (b, x) ∈ ly) : lyG ly b = some x := by
  obtain ⟨i, hi⟩ := List.getElem?_of_mem h
  exact lyG_at nd hi
theorem lyG_perm {ly' : List (Int × Int)} (nd : (ly.map (·.1)).Nodup) (h : ly.Perm ly') (b : Int) : lyG ly b = lyG ly' b := by
  cases e : lyG ly' b with
  | some x => exact lyG_of nd (h.mem_iff.mpr (lyG_mem e))
  | none =>
    rw [lyG_none] at e ⊢
    exact fun p hp => e p (h.mem_iff.mp hp)
theorem lyX_perm {ly' : List (Int × Int)} (h : ly.Perm ly') (b : Int) : (lyX ly b).Perm (lyX ly' b) := h.filter _
theorem lyX_none (h : lyG ly b = none) : lyX ly b = ly := by
  unfold lyX
  rw [List.filter_eq_self]
  intro p hp
  simpa using lyG_none.mp h p hp
theorem lyX_G : lyG (lyX ly b) b = none := by
  rw [lyG_none]
  intro p hp
  unfold lyX at hp
  simpa using (List.mem_filter.mp hp).2
theorem lyX_back : ∀ {ly : List (Int × Int)}, (ly.map (·.1)).Nodup → (b, x) ∈ ly → (lyX ly b ++ [(b, x)]).Perm ly
  | [], _, h => by cases h
  | q :: ly, nd, h => by
    rw [List.map_cons, List.nodup_cons] at nd
    by_cases e : q.1 = b
    · have hq : q = (b, x) := by
        rcases List.mem_cons.mp h with z | z
        · exact z.symm
        · exact absurd (by rw [e]; exact List.mem_map.mpr ⟨_, z, rfl⟩) nd.1
      have hn : lyG ly b = none := by
        rw [lyG_none]
        exact fun p hp z => nd.1 (by rw [e]; exact List.mem_map.mpr ⟨p, hp, z⟩)
      have e2 : lyX (q :: ly) b = ly := by
        have := lyX_none hn
        unfold lyX at this ⊢
        rw [List.filter_cons, if_neg (by simp [e])]
        exact this
      rw [e2, hq]
      exact List.perm_append_singleton (b, x) ly
    · have e2 : lyX (q :: ly) b = q :: lyX ly b := by
        unfold lyX
        rw [List.filter_cons, if_pos (by simp [e])]
      rw [e2, List.cons_append]
      refine List.Perm.cons _ (lyX_back nd.2 ?_)
      rcases List.mem_cons.mp h with z | z
      · exact absurd (by rw [← z]) e
      · exact z
theorem Hs.nd (h : Hs n z ps ly) : (ly.map (·.1)).Nodup := by
  induction h with
  | nil => exact List.nodup_nil
  | come h h1 h2 h3 h4 h5 h6 ih =>
    rw [List.map_append, List.nodup_append]
    refine ⟨ih, by simp, fun a ha c hc => ?_⟩
    obtain ⟨p, hp, rfl⟩ := List.mem_map.mp ha
    have hc := List.mem_singleton.mp hc
    rw [hc]
    exact lyG_none.mp h5 p hp
  | gone h h1 ih => exact List.Nodup.sublist (List.Sublist.map _ List.filter_sublist) ih
  | perm h hp ih => exact (hp.map _).nodup_iff.mp ih
theorem Hs.few (h : Hs n z ps ly) : ly.length ≤ 60 := by
  induction h with
  | nil => exact Nat.zero_le _
  | come h h1 h2 h3 h4 h5 h6 ih =>
    rw [List.length_append]
    show _ + 1 ≤ 60
    omega
  | gone h h1 ih => exact Nat.le_trans (List.length_filter_le ..) ih
  | perm h hp ih => rw [← hp.length_eq]; exact ih
theorem Hs.box (h : Hs n z ps ly) : ∀ p, p ∈ ly → (0 ≤ p.2 ∧ p.2 < n) ∧ 0 ≤ p.1 ∧ p.1 < z := by
  induction h with
  | nil => exact fun p h => nomatch h
  | come h h1 h2 h3 h4 h5 h6 ih =>
    intro p hp
    rcases List.mem_append.mp hp with q | q
    · exact ih p q
    · rw [List.mem_singleton.mp q]
      exact ⟨⟨h3, h4⟩, h1, h2⟩
  | gone h h1 ih => exact fun p hp => ih p (List.mem_filter.mp hp).1
  | perm h hp ih => exact fun p q => ih p (hp.mem_iff.mpr q)
theorem Hs.rep (h : Hs n z ps ly) : ly.Perm (rep ps) := by
  induction h with
  | nil => exact .refl _
  | come h h1 h2 h3 h4 h5 h6 ih =>
    rw [rep_come]
    exact ih.append_right _
  | gone h h1 ih =>
    rw [rep_gone]
    exact lyX_perm ih _
  | perm h hp ih => exact hp.symm.trans ih
theorem Hs.mono {z' : Int} (h : Hs n z ps ly) (hz : z ≤ z') : Hs n z' ps ly := by
  induction h with
  | nil => exact .nil
  | come h h1 h2 h3 h4 h5 h6 ih => exact .come ih h1 (by omega) h3 h4 h5 h6
  | gone h h1 ih => exact .gone ih h1
  | perm h hp ih => exact .perm ih hp
theorem Hs.inv_come {ps' : List Deed} (h : Hs n z ps' ly) (e : ps' = ps ++ [(true, b, x)]) : ∃ l0, Hs n z ps l0 ∧ lyG l0 b = none ∧ ly.Perm (l0 ++ [(b, x)]) := by
  induction h with
  | nil => simp at e
  | come h h1 h2 h3 h4 h5 h6 ih =>
    obtain ⟨rfl, e2⟩ := List.append_inj' e rfl
    cases e2
    exact ⟨_, h, h5, .refl _⟩
  | gone h h1 ih =>
    obtain ⟨rfl, e2⟩ := List.append_inj' e rfl
    cases e2
  | perm h hp ih =>
    obtain ⟨l0, h1, h2, h3⟩ := ih e
    exact ⟨l0, h1, h2, hp.symm.trans h3⟩
theorem Hs.inv_gone {ps' : List Deed} (h : Hs n z ps' ly) (e : ps' = ps ++ [(false, b, x)]) : ∃ l0, Hs n z ps l0 ∧ lyG l0 b = some x ∧ ly.Perm (lyX l0 b) := by
  induction h with
  | nil => simp at e
  | come h h1 h2 h3 h4 h5 h6 ih =>
    obtain ⟨rfl, e2⟩ := List.append_inj' e rfl
    cases e2
  | gone h h1 ih =>
    obtain ⟨rfl, e2⟩ := List.append_inj' e rfl
    cases e2
    exact ⟨_, h, h1, .refl _⟩
  | perm h hp ih =>
    obtain ⟨l0, h1, h2, h3⟩ := ih e
    exact ⟨l0, h1, h2, hp.symm.trans h3⟩
theorem Hs.back_come (h : Hs n z (ps ++ [(true, b, x)]) ly) : lyG ly b = some x ∧ Hs n z ps (lyX ly b) := by
  obtain ⟨l0, h1, h2, h3⟩ := h.inv_come rfl
  refine ⟨lyG_of h.nd (h3.mem_iff.mpr (by simp)), .perm h1 ?_⟩
  have e : lyX (l0 ++ [(b, x)]) b = l0 := by
    have := lyX_none h2
    unfold lyX at this ⊢
    rw [List.filter_append, this]
    simp
  have := lyX_perm h3 b
  rw [e] at this
  exact this.symm
theorem Hs.back_gone (h : Hs n z (ps ++ [(false, b, x)]) ly) : lyG ly b = none ∧ Hs n z ps (ly ++ [(b, x)]) := by
  obtain ⟨l0, h1, h2, h3⟩ := h.inv_gone rfl
  refine ⟨?_, .perm h1 ?_⟩
  · rw [lyG_perm h.nd h3]
    exact lyX_G
  · exact (lyX_back h1.nd (lyG_mem h2)).symm.trans (h3.symm.append_right _)
/-! ### a room by its deeds -/
def sP (n : Nat) (ps : List Deed) : List Int := stL n (rep ps)
structure AtR (m : List Cell) (a n : Nat) (z : Int) (ps : List Deed) : Prop where
  ex : ∃ ly, InRm m a ⟨n, ly, z, ps⟩ ∧ Hs n z ps ly
  n0 : 1 ≤ n
  n6 : n ≤ 6
  z0 : 0 ≤ z
  ps1 : ps.length < 90000
theorem AtR.off {m m' : List Cell} {a c : Nat} (h : AtR m a n z ps) (o : Off3 c m m') (hac : a + 3 ≤ c ∨ c + 3 ≤ a) : AtR m' a n z ps := by
  obtain ⟨⟨ly, h1, h2⟩, h3, h4, h5, h6⟩ := h
  exact ⟨⟨ly, h1.off o hac, h2⟩, h3, h4, h5, h6⟩
theorem AtR.set {m : List Cell} {a i : Nat} {c : Cell} (h : AtR m a n z ps) (hi : i < a ∨ a + 3 ≤ i) : AtR (m.set i c) a n z ps := by
  obtain ⟨⟨ly, h1, h2⟩, h3, h4, h5, h6⟩ := h
  exact ⟨⟨ly, ⟨set_ne' h1.o (by omega), set_ne' h1.l (by omega), set_ne' h1.p (by omega)⟩, h2⟩, h3, h4, h5, h6⟩
theorem AtR.app {m : List Cell} {a : Nat} (h : AtR m a n z ps) (y : List Cell) : AtR (m ++ y) a n z ps := by
  obtain ⟨⟨ly, h1, h2⟩, h3, h4, h5, h6⟩ := h
  exact ⟨⟨ly, h1.app y, h2⟩, h3, h4, h5, h6⟩
theorem AtR.lt {m : List Cell} {a : Nat} (h : AtR m a n z ps) : a + 2 < m.length := by
  obtain ⟨⟨ly, h1, h2⟩, h3, h4, h5, h6⟩ := h
  exact h1.lt
theorem rmOk_of (h : Hs n z ps ly) (n0 : 1 ≤ n) (n6 : n ≤ 6) : RmOk ⟨n, ly, z, ps⟩ := ⟨n0, n6, fun p hp => (h.box p hp).1, h.nd, h.few⟩
variable {m : List Cell} {a : Nat}
theorem AtR.put (h : AtR m a n z ps) {bs : List Int} (hb : DrawOk n bs) (hl : (Vm.rep ps).length < 60) (hp : ps.length < 80000) :
    ∃ m', fPutR [.c (a + 2), .d (tupD bs)] m = .ok (.d (.tuple [.int z, .int (chF (sP n ps) bs)])) m' ∧ Off3 a m m' ∧ AtR m' a n (z + 1) (ps ++ [(true, z, chF (sP n ps) bs)]) := by
  obtain ⟨⟨ly, h1, h2⟩, h3, h4, h5, h6⟩ := h
  have hz : lyG ly z = none := lyG_none.mpr fun p hp e => by have := (h2.box p hp).2; omega
  have el : ly.length < 60 := by rw [h2.rep.length_eq]; exact hl
  obtain ⟨m', e1, e2, e3⟩ := put_ok2 h1 (rmOk_of h2 h3 h4) hb el hz (by show ps.length < _; omega)
  have es : stL n ly = sP n ps := stL_perm h2.rep
  have e1 : fPutR [.c (a + 2), .d (tupD bs)] m = .ok (.d (.tuple [.int z, .int (chF (stL n ly) bs)])) m' := e1
  have e3 : InRm m' a { n := n, ly := ly ++ [(z, chF (stL n ly) bs)], z := z + 1, ps := ps ++ [(true, z, chF (stL n ly) bs)] } := e3
  rw [es] at e1 e3
  have hc := ch_rng (ns := sP n ps) (bs := bs) (by unfold sP; rw [stL_len]; exact hb)
  have hln : (sP n ps).length = n := stL_len
  exact ⟨m', e1, e2, ⟨_, e3, .come (h2.mono (by omega)) h5 (by omega) hc.1 (by rw [hln] at hc; exact hc.2) hz el⟩, h3, h4, by omega, by rw [List.length_append]; show _ + 1 < _; omega⟩
theorem AtR.back {d : Deed} (h : AtR m a n z (ps ++ [d])) : ∃ m', fBackR [.c (a + 2)] m = .ok (.d (.int d.2.1)) m' ∧ Off3 a m m' ∧ AtR m' a n z ps := by
  obtain ⟨⟨ly, h1, h2⟩, h3, h4, h5, h6⟩ := h
  have hl : ps.length < 90000 := by rw [List.length_append] at h6; have : ps.length + 1 < 90000 := h6; omega
  obtain ⟨c, b, x⟩ := d
  cases c with
  | true =>
    obtain ⟨g1, g2⟩ := h2.back_come
    obtain ⟨m', e1, e2, e3⟩ := Vm.back_come h1 (ps := ps) rfl g1
    exact ⟨m', e1, e2, ⟨_, e3, g2⟩, h3, h4, h5, hl⟩
  | false =>
    obtain ⟨g1, g2⟩ := h2.back_gone
    obtain ⟨m', e1, e2, e3⟩ := Vm.back_gone h1 (ps := ps) rfl g1 (by show ly.length < _; have := h2.few; omega)
    exact ⟨m', e1, e2, ⟨_, e3, g2⟩, h3, h4, h5, hl⟩
theorem AtR.new {m : List Cell} {n : Nat} (n0 : 1 ≤ n) (n6 : n ≤ 6) : AtR (m ++ [.k [], .l [], .g (.o "Room" (roomF (.int n) m.length (m.length + 1) 0))]) m.length n 0 [] :=
  ⟨⟨[], mk_room, .nil⟩, n0, n6, Int.le_refl _, by decide⟩
end Vm
namespace Vm
open PySem L2 PySem.Spec PyProof.Rows
/-! ### dicts by texts whose values are data or cells -/
theorem byT_get (f : Str) : ∀ vs : List (Str × V), valV (byT vs) (.inr f : L2.Key) = vs.lookup f
  | [] => rfl
  | (g, v) :: vs => by
    have ih := byT_get f vs
    unfold valV byT at ih ⊢
    rw [List.map_cons, List.find?_cons]
    by_cases q : g = f
    · have q1 : (Sum.inr g : L2.Key) = Sum.inr f := by rw [q]
      have q2 : (f == g) = true := by rw [q]; exact beq_self_eq_true f
      rw [decide_eq_true q1, List.lookup, q2]
      rfl
    · have q1 : ¬ (Sum.inr g : L2.Key) = Sum.inr f := fun z => q (Sum.inr.inj z)
      have q2 : (f == g) = false := beq_eq_false_iff_ne.mpr fun z => q z.symm
      rw [decide_eq_false q1, List.lookup, q2]
      exact ih
theorem byT_any (f : Str) : ∀ vs : List (Str × V), ((byT vs).any fun kv => decide (kv.1 = (Sum.inr f : L2.Key))) = vs.any fun a => decide (a.1 = f)
  | [] => rfl
  | (g, v) :: vs => by
    have ih := byT_any f vs
    unfold byT at ih ⊢
    rw [List.map_cons, List.any_cons, List.any_cons, ih]
    by_cases q : g = f
    · have q1 : (Sum.inr g : L2.Key) = Sum.inr f := by rw [q]
      rw [decide_eq_true q1, decide_eq_true q]
    · have q1 : ¬ (Sum.inr g : L2.Key) = Sum.inr f := fun z => q (Sum.inr.inj z)
      rw [decide_eq_false q1, decide_eq_false q]
theorem putF_no {f : Str} {v : V} : ∀ {vs : List (Str × V)}, (vs.any fun a => decide (a.1 = f)) = false → putF f v vs = vs ++ [(f, v)]
  | [], _ => rfl
  | (g, u) :: vs, h => by
    rw [List.any_cons, Bool.or_eq_false_iff] at h
    show (if g = f then _ else (g, u) :: putF f v vs) = _
    rw [if_neg (of_decide_eq_false h.1), putF_no h.2]
    rfl
theorem putF_yes {f : Str} {v : V} : ∀ {vs : List (Str × V)}, (vs.map (·.1)).Nodup → (vs.any fun a => decide (a.1 = f)) = true → putF f v vs = vs.map fun a => if a.1 = f then (a.1, v) else a
  | [], _, h => by cases h
  | (g, u) :: vs, nd, h => by
    rw [List.map_cons, List.nodup_cons] at nd
    show (if g = f then (g, v) :: vs else (g, u) :: putF f v vs) = (if g = f then (g, v) else (g, u)) :: vs.map _
    by_cases q : g = f
    · rw [if_pos q, if_pos q]
      congr 1
      symm
      refine (List.map_congr_left fun a ha => ?_).trans (List.map_id _)
      rw [if_neg fun z => nd.1 (by rw [q, ← z]; exact List.mem_map.mpr ⟨a, ha, rfl⟩)]
      rfl
    · rw [if_neg q, if_neg q]
      congr 1
      refine putF_yes nd.2 ?_
      rw [List.any_cons, decide_eq_false q, Bool.false_or] at h
      exact h
theorem byT_put {f : Str} {v : V} {vs : List (Str × V)} (nd : (vs.map (·.1)).Nodup) : L2.putK (byT vs) (.inr f : L2.Key) v = byT (putF f v vs) := by
  unfold L2.putK
  rw [byT_any]
  cases h : vs.any fun a => decide (a.1 = f) with
  | false =>
    rw [if_neg (by decide), putF_no h]
    unfold byT
    rw [List.map_append]
    rfl
  | true =>
    rw [if_pos rfl, putF_yes nd h]
    unfold byT
    rw [List.map_map, List.map_map]
    refine List.map_congr_left fun a _ => ?_
    show (if (Sum.inr a.1 : L2.Key) = Sum.inr f then _ else _) = _
    by_cases q : a.1 = f
    · have q1 : (Sum.inr a.1 : L2.Key) = Sum.inr f := by rw [q]
      rw [if_pos q1]
      simp [q]
    · have q1 : ¬ (Sum.inr a.1 : L2.Key) = Sum.inr f := fun z => q (Sum.inr.inj z)
      rw [if_neg q1]
      simp [q]
theorem merge_byT : ∀ (ks : List Str) (vs : List V) (acc : List (Str × V)), ((acc.map (·.1)) ++ ks).Nodup → mergeK (byT acc) ((ks.map (Sum.inr : Str → L2.Key)).zip vs) = byT (acc ++ ks.zip vs)
  | [], vs, acc, _ => by
    show byT acc = _
    rw [List.zip_nil_left, List.append_nil]
  | k :: ks, [], acc, _ => by
    show byT acc = _
    rw [List.zip_nil_right, List.append_nil]
  | k :: ks, v :: vs, acc, nd => by
    have h1 : (acc.any fun a => decide (a.1 = k)) = false := by
      rw [List.any_eq_false]
      intro a ha
      have := (List.nodup_append.mp nd).2.2 a.1 (List.mem_map.mpr ⟨a, ha, rfl⟩) k (List.mem_cons_self ..)
      simpa using this
    have e : L2.putK (byT acc) (Sum.inr k : L2.Key) v = byT (acc ++ [(k, v)]) := by
      unfold L2.putK
      rw [byT_any, h1, if_neg (by decide)]
      unfold byT
      rw [List.map_append]
      rfl
    show mergeK (L2.putK (byT acc) (Sum.inr k : L2.Key) v) ((ks.map (Sum.inr : Str → L2.Key)).zip vs) = _
    rw [e, merge_byT ks vs (acc ++ [(k, v)]) (by rw [List.map_append, List.append_assoc]; exact nd), List.append_assoc]
    rfl
def El.noP : El → Bool
  | .p _ => false
  | _ => true
/-- what stands at such a dict's cell -/
theorem w_at {ec : EC} {K : Fg} {w : Wd} {m : List Cell} {n : Nat} {p : Addr} {fs : List (Str × El)} (hm : Mem ec K w m) (hp : w.r[n]? = some p) (h : m[n]? = some (.g (.w fs))) : ∃ vs, w.G p = none ∧ w.H p = some (.dK (byT vs)) ∧ Paired (FdR K w.G) vs fs ∧ Paired (FdC w.r n) vs fs := by
  obtain ⟨g0, o, ho, vs, rfl, fr⟩ := hm.cell n p _ hp h
  obtain ⟨vs', h', fc⟩ := hm.nv.1.2 n p _ hp h
  rw [ho] at h'
  have inj : ∀ {a b : List (Str × V)}, byT a = byT b → a = b := by
    intro a
    induction a with
    | nil =>
      intro b e
      cases b with
      | nil => rfl
      | cons _ _ => cases e
    | cons x a ih =>
      intro b e
      cases b with
      | nil => cases e
      | cons y b =>
        have e : ((Sum.inr x.1 : L2.Key), x.2) :: byT a = ((Sum.inr y.1 : L2.Key), y.2) :: byT b := e
        injection e with e1 e2
        obtain ⟨x1, x2⟩ := x
        obtain ⟨y1, y2⟩ := y
        have e3 : x1 = y1 := Sum.inr.inj (congrArg Prod.fst e1)
        have e4 : x2 = y2 := congrArg Prod.snd e1
        rw [ih e2, e3, e4]
  have e : byT vs = byT vs' := by
    have := Option.some.inj h'
    injection this
  rw [inj e] at fr ho
  exact ⟨vs', g0, ho, fr, fc⟩
/-- d["f"] -/
def cItW (f : Str) (co : CE) : CE := fun s => (cv co s).bind fun a s1 => match a with
  | .ref n => match s1.m[n]? with
    | some (.g (.w fs)) => match fs.lookup f with
      | some el => .ok (elRv el) s1
      | none => .bad
    | _ => .bad
  | _ => .bad
/-- d["f"] = c, data -/
def cPutW (f : Str) (co c : CE) : CS := fun s => (cv c s).out fun y s1 => (cv co s1).out fun a s2 => match y, a with
  | .d x, .ref n => match s2.m[n]? with
    | some (.g (.w fs)) => if (fs.map (·.1)).Nodup ∧ fs.length < 1000 then .nx ⟨s2.v, s2.m.set n (.g (.w (putEl f (.d x) fs)))⟩ else .bad
    | _ => .bad
  | _, _ => .bad
theorem names_eq {K : Fg} {G : Hp} : ∀ {vs : List (Str × V)} {fs : List (Str × El)}, Paired (FdR K G) vs fs → vs.map (·.1) = fs.map (·.1)
  | _, _, .nil => rfl
  | _, _, .cons q t => by
    rw [List.map_cons, List.map_cons, q.1, names_eq t]
section
variable {X : Cx} {ec : EC} {W : WX}
theorem e_itW {f : Str} {j : Nat} {o : Expr} {co : CE} {p2 pos : Pos} (hu : X.A.units + 1 < cLine) (ho : Ex X ec W o co) (hs : NoSl (.Constant (.str f) j p2) := by exact fun _ _ => rfl) : Ex X ec W (.Subscript o (.Constant (.str f) j p2) pos) (cItW f co) :=
  (pe_dget hu ho pe_str hs).imp fun σ H Q h => by
    obtain ⟨w, s, rfl, hr, h⟩ := h
    unfold cItW at h
    refine run_cv hr h fun x w1 s1 a le1 hr1 ha hn h1 => ?_
    cases a with
    | d y => exact h1.elim
    | new c => exact h1.elim
    | t _ _ => exact h1.elim
    | ref n =>
      obtain ⟨p, rfl, hp⟩ := ha
      dsimp only at h1
      split at h1
      · rename_i fs hm
        split at h1
        · rename_i el hl
          obtain ⟨vs, g0, ho, fr, fc⟩ := w_at hr1.mem hp hm
          obtain ⟨v, hv, eo⟩ := fd_lookup fr fc hl
          have g : DGet w1.H p (kV (.inr f)) (some v) := by
            rw [← hv, ← byT_get]
            exact DGet.k ho
          refine ⟨p, v, rfl, g, ?_⟩
          cases el with
          | d y => exact h1 v w1 le1 hr1 eo .d
          | c k => exact h1 v w1 le1 hr1 eo .ref
          | p us =>
            obtain ⟨a2, vs2, e1, e2, e3⟩ := eo
            exact h1 v w1 le1 hr1 ⟨a2, vs2, e1, e2, paired_el e3⟩ .t
        · exact h1.elim
      · exact h1.elim
theorem w_set {K : Fg} {w : Wd} {σ : L2.St} {s : S} {n : Nat} {p : Addr} {fs fs' : List (Str × El)} {vs vs' : List (Str × V)} (r : Rel ec K w σ s) (hn : w.r[n]? = some p) (hg : w.G p = none) (hm : s.m[n]? = some (.g (.w fs))) (ho : w.H p = some (.dK (byT vs)))
    (fr : Paired (FdR K w.G) vs' fs') (fc : Paired (FdC w.r n) vs' fs') :
    Rel ec K ⟨w.G, w.r, w.F, upd w.H p (.dK (byT vs'))⟩ σ ⟨s.v, s.m.set n (.g (.w fs'))⟩ ∧ Le w ⟨w.G, w.r, w.F, upd w.H p (.dK (byT vs'))⟩ := by
  have hnm : n < s.m.length := (List.getElem?_eq_some_iff.mp hm).1
  refine cell_setN (c := .g (.w fs')) (o := .dK (byT vs')) r hn hg ⟨hg, _, upd_same, _, rfl, fr⟩ ⟨⟨fun t q n0 j ds e1 e2 => ?_, fun t q x e1 e2 => ?_⟩, fun q hq => ?_⟩ fun _ _ z => by
    rw [ho] at z
    cases z
  · have ne : n ≠ t := fun z => by
      subst z
      rw [List.getElem?_set_self hnm] at e2
      cases e2
    rw [List.getElem?_set_ne ne] at e2
    obtain ⟨h1, h2⟩ := r.mem.nv.1.1 t q n0 j ds e1 e2
    refine ⟨h1, fun p' ks e3 e4 => ?_⟩
    have ne2 : n ≠ n0 := fun z => by
      subst z
      rw [List.getElem?_set_self hnm] at e4
      cases e4
    rw [List.getElem?_set_ne ne2] at e4
    obtain ⟨ws, k, e5, e6⟩ := h2 p' ks e3 e4
    refine ⟨ws, k, ?_, e6⟩
    have hp : p' ≠ p := fun z => ne2 (nd_ix r.mem.nd hn (z ▸ e3))
    show upd w.H p _ p' = _
    rw [upd_ne hp]
    exact e5
  · by_cases ne : n = t
    · subst ne
      rw [List.getElem?_set_self hnm] at e2
      cases e2
      have e1 : w.r[n]? = some q := e1
      rw [hn] at e1
      cases e1
      exact ⟨vs', upd_same, fc⟩
    · rw [List.getElem?_set_ne ne] at e2
      have hq : q ≠ p := fun z => ne (nd_ix r.mem.nd hn (z ▸ e1))
      refine (r.mem.nv.1.2 t q x e1 e2).mono (fun _ _ _ z => z) fun _ _ z => ?_
      show upd w.H p _ q = _
      rw [upd_ne hq]
      exact z
  · have hq' : q ≠ p := fun z => (r.mem.fo q hq).2.1 (z ▸ List.mem_of_getElem? hn)
    rcases r.mem.nv.2 q hq with z | ⟨u, e, z⟩
    · exact .inl z
    · refine .inr ⟨u, ?_, z⟩
      show upd w.H p _ q = _
      rw [upd_ne hq']
      exact e
theorem s_putW {f : Str} {j : Nat} {o e : Expr} {co ce : CE} {p2 pos' pos : Pos} (hu : X.A.units + 1 < cLine) (ho : Ex X ec W o co) (he : Ex X ec W e ce) (hs : swapsWith e (some (.Subscript o (.Constant (.str f) j p2) pos')) pos.line X.env = pure false := by rfl) : Sx X ec W (.Assign [.Subscript o (.Constant (.str f) j p2) pos'] e pos) (cPutW f co ce) :=
  (ps_dput hu ho pe_str he hs).imp fun D σ H h => by
    obtain ⟨w, s, rfl, hr, h⟩ := h
    refine run_ev hr h fun xv w1 s1 v le1 r1 o1 hn1 h1 => ?_
    refine run_ev r1 (h1.le le1) fun xo w2 s2 o le2 r2 o2 hn2 h2 => ?_
    cases v with
    | new _ => exact h2.elim
    | t _ _ => exact h2.elim
    | ref _ => exact h2.elim
    | d y =>
      cases o with
      | new _ => exact h2.elim
      | t _ _ => exact h2.elim
      | d _ => exact h2.elim
      | ref n =>
        obtain ⟨p, rfl, hp⟩ := o2
        dsimp only at h2
        split at h2
        · rename_i fs hm
          split at h2
          · rename_i hC
            obtain ⟨hN, hl⟩ := hC
            obtain ⟨vs, g0, ho, fr, fc⟩ := w_at r2.mem hp hm
            have ry : Rp X.K w2.G xv y := Rp.mono le2.g _ _ o1
            obtain ⟨r3, le3⟩ := w_set r2 hp g0 hm ho (put_R (f := f) ry fr) (put_C (f := f) (v := xv) (x := y) fr fc)
            have nd : (vs.map (·.1)).Nodup := by rw [names_eq fr]; exact hN
            have dp := DPut.k (k := (.inr f : L2.Key)) (v := xv) ho (by
              unfold byT
              rw [List.length_map, paired_len fr]
              exact small1000 (Nat.le_of_lt hl))
            rw [byT_put nd] at dp
            exact ⟨p, _, rfl, dp, h2 σ _ (le2.trans le3) r3⟩
          · exact h2.elim
        · exact h2.elim
/-! the display -/
def nConsK (c : CE) (ca : CAN) : CAN := fun s => (c s).bind fun a s1 => match a with
  | .d x => (ca s1).bind fun r s2 => .ok (.d x :: r) s2
  | .ref n => (ca s1).bind fun r s2 => .ok (.c n :: r) s2
  | .new (.l ds) => (ca ⟨s1.v, s1.m ++ [.l ds]⟩).bind fun r s2 => .ok (.c s1.m.length :: r) s2
  | .new (.k ds) => (ca ⟨s1.v, s1.m ++ [.k ds]⟩).bind fun r s2 => .ok (.c s1.m.length :: r) s2
  | _ => .bad
theorem rdn_consK {c : CE} {ca : CAN} {σ : L2.St} {H : Hp} {Q : List V → Hp → Prop} (h : rdN X.K ec W (nConsK c ca) σ H Q) : rd X.K ec W c σ H fun x H1 => rdN X.K ec W ca σ H1 fun vs H2 => Q (x :: vs) H2 := by
  obtain ⟨w, s, rfl, hr, h⟩ := h
  refine run_c hr h fun x w1 s1 a le1 hr1 ha fr h1 => ?_
  have cellK : ∀ (cc : Cell), cc ≠ .gone → (∀ n j ds, cc ≠ .i n j ds) → cc.noO = true → (∃ p, x = .ref p ∧ (p ∉ w1.r ∧ ¬ w1.F p) ∧ COk X.K w1.G w1.H p cc) → (∀ p, x = .ref p → w.H p = none) → Res (fun es s' => ∀ vs w', Le w w' → Rel ec X.K w' σ s' → Paired (ElOk X.K w'.G w'.r) vs es → Q vs w'.H) (okE X.K ec W σ w) ((ca ⟨s1.v, s1.m ++ [cc]⟩).bind fun r s2 => .ok (.c s1.m.length :: r) s2) → rdN X.K ec W ca σ w1.H fun vs H2 => Q (x :: vs) H2 := fun cc h1' h2' h3' ha hf h1 => by
    obtain ⟨p, rfl, hp, hc⟩ := ha
    obtain ⟨r2, l2⟩ := cell_in (w := w) (c := cc) h1' h2' hr.mem.inv le1 hr1 hp (hf p rfl) hc h3'
    refine ⟨⟨w1.G, w1.r ++ [p], w1.F, w1.H⟩, ⟨s1.v, s1.m ++ [cc]⟩, rfl, r2, ?_⟩
    refine Res.mono h1.bind (fun es s2 h2 vs w2 le2 hr2 rp => ?_) fun _ _ q => okE_le l2 q
    refine h2 (.ref p :: vs) w2 (l2.trans le2) hr2 (.cons ⟨p, rfl, le2.cell ?_⟩ rp)
    show (w1.r ++ [p])[s1.m.length]? = some p
    rw [← hr1.mem.len, List.getElem?_append_right (Nat.le_refl _), Nat.sub_self]
    rfl
  cases a with
  | t _ _ => exact h1.elim
  | d y =>
    refine ⟨w1, s1, rfl, hr1, ?_⟩
    refine Res.mono h1.bind (fun es s2 h2 vs w2 le2 hr2 rp => ?_) fun _ _ q => okE_le le1 q
    exact h2 (x :: vs) w2 (le1.trans le2) hr2 (.cons (Rp.mono le2.g _ _ ha) rp)
  | ref n =>
    obtain ⟨p, ep, hp⟩ := ha
    refine ⟨w1, s1, rfl, hr1, ?_⟩
    refine Res.mono h1.bind (fun es s2 h2 vs w2 le2 hr2 rp => ?_) fun _ _ q => okE_le le1 q
    exact h2 (x :: vs) w2 (le1.trans le2) hr2 (.cons ⟨p, ep, le2.cell hp⟩ rp)
  | new c =>
    cases c with
    | l ds => exact cellK (.l ds) (by intro z; cases z) (by intro _ _ _ z; cases z) rfl ha (fun p e => fr _ rfl p e) h1
    | k ds => exact cellK (.k ds) (by intro z; cases z) (by intro _ _ _ z; cases z) rfl ha (fun p e => fr _ rfl p e) h1
    | _ => exact h1.elim
structure DPW (X : Cx) (ec : EC) (W : WX) (pos : Pos) (keys : List (Option Expr)) (values : List Expr) (ks : List Str) (ca : CAN) : Prop where
  ex : ∃ trs, PPs X pos keys values trs ∧ ∀ σ H (Q : List (V × V) → Hp → Prop), rdN X.K ec W ca σ H (fun vs H1 => Q ((ks.map fun k => kV (.inr k)).zip vs) H1) → tPairs trs σ H Q
theorem dpw_nil {pos : Pos} : DPW X ec W pos [] [] [] nNil := ⟨[], pps_nil, fun σ H Q h => by
  obtain ⟨w, s, rfl, hr, h⟩ := h
  exact h [] w (Le.refl w) hr .nil⟩
theorem dpw_cons {pos kp : Pos} {j : Nat} {key : Str} {v : Expr} {kes : List (Option Expr)} {vs : List Expr} {ks : List Str} {c : CE} {ca : CAN} (hv : Ex X ec W v c) (hr : DPW X ec W pos kes vs ks ca) : DPW X ec W pos (some (.Constant (.str key) j kp) :: kes) (v :: vs) (key :: ks) (nConsK c ca) := by
  obtain ⟨trs, h1, h2⟩ := hr.ex
  refine ⟨(tC (kV (.inr key)), rd X.K ec W c) :: trs, pps_cons pe_str hv h1, fun σ H Q h => ?_⟩
  show rd X.K ec W c σ H fun y H2 => tPairs trs σ H2 fun ps H3 => Q ((kV (.inr key), y) :: ps) H3
  obtain ⟨w, s, e, hr, h3⟩ := rdn_consK h
  refine ⟨w, s, e, hr, Res.mono h3 (fun rv s' q x w' le r' o f => ?_) fun _ _ q => q⟩
  refine h2 σ w'.H _ ?_
  obtain ⟨w2, s2, e2, r2, h4⟩ := q x w' le r' o f
  exact ⟨w2, s2, e2, r2, h4⟩
theorem nv_inG {w : Wd} {m : List Cell} {p : Addr} {x : GX} (hl : w.r.length = m.length) (h : NV ec w m) (lk : LkO ec w.r m.length p w.H x) : NV ec ⟨w.G, w.r ++ [p], w.F, w.H⟩ (m ++ [.g x]) := by
  refine ⟨⟨fun t q n j ds e1 e2 => ?_, fun t q y e1 e2 => ?_⟩, h.2⟩
  · have e1 : (w.r ++ [p])[t]? = some q := e1
    by_cases ht : t < m.length
    · rw [List.getElem?_append_left ht] at e2
      rw [List.getElem?_append_left (by omega)] at e1
      obtain ⟨h1, h2⟩ := h.1.1 t q n j ds e1 e2
      refine ⟨h1, fun p' ks e3 e4 => ?_⟩
      have e3 : (w.r ++ [p])[n]? = some p' := e3
      rw [List.getElem?_append_left (by omega)] at e3
      rw [List.getElem?_append_left (by omega)] at e4
      exact h2 p' ks e3 e4
    · rw [List.getElem?_append_right (by omega)] at e2
      cases hk : t - m.length with
      | zero =>
        rw [hk] at e2
        cases e2
      | succ k =>
        rw [hk] at e2
        cases e2
  · have e1 : (w.r ++ [p])[t]? = some q := e1
    by_cases ht : t < m.length
    · rw [List.getElem?_append_left ht] at e2
      rw [List.getElem?_append_left (by omega)] at e1
      refine (h.1.2 t q y e1 e2).mono (fun k p' hk z => ?_) fun _ _ z => z
      show (w.r ++ [p])[k]? = some p'
      rw [List.getElem?_append_left (by omega)]
      exact z
    · rw [List.getElem?_append_right (by omega)] at e2
      cases hk : t - m.length with
      | zero =>
        rw [hk] at e2
        cases e2
        have ht' : t = m.length := by omega
        subst ht'
        rw [List.getElem?_append_right (by omega), hl, Nat.sub_self] at e1
        cases e1
        refine lk.mono (fun k p' hk z => ?_) fun _ _ z => z
        show (w.r ++ [p])[k]? = some p'
        rw [List.getElem?_append_left (by omega)]
        exact z
      | succ k =>
        rw [hk] at e2
        cases e2
theorem zip_R {K : Fg} {G : Hp} {r : List Addr} : ∀ (ks : List Str) {vs : List V} {es : List El}, Paired (ElOk K G r) vs es → es.all El.noP = true → Paired (FdR K G) (ks.zip vs) (ks.zip es)
  | [], _, _, _, _ => .nil
  | k :: ks, _, _, .nil, _ => .nil
  | k :: ks, _, e :: es, .cons q t, h => by
    rw [List.all_cons, Bool.and_eq_true] at h
    refine .cons ⟨rfl, ?_⟩ (zip_R ks t h.2)
    cases e with
    | d x => exact q
    | c n => trivial
    | p us => cases h.1
theorem zip_C {K : Fg} {G : Hp} {r : List Addr} {n : Nat} (hn : r.length = n) : ∀ (ks : List Str) {vs : List V} {es : List El}, Paired (ElOk K G r) vs es → Paired (FdC r n) (ks.zip vs) (ks.zip es)
  | [], _, _, _ => .nil
  | k :: ks, _, _, .nil => .nil
  | k :: ks, _, e :: es, .cons q t => by
    refine .cons (fun j ej => ?_) (zip_C hn ks t)
    have ej : e = .c j := ej
    subst ej
    obtain ⟨p, e1, e2⟩ := q
    exact ⟨by rw [← hn]; exact (List.getElem?_eq_some_iff.mp e2).1, p, e1, e2⟩
def cDispW (ks : List Str) (ca : CAN) : CE := fun s => (ca s).bind fun es s1 => if ks.Nodup ∧ es.all El.noP = true then .ok (.ref s1.m.length) ⟨s1.v, s1.m ++ [.g (.w (ks.zip es))]⟩ else .bad
theorem e_dispW {keys : List (Option Expr)} {values : List Expr} {ks : List Str} {ca : CAN} {pos : Pos} (h : DPW X ec W pos keys values ks ca) (h15 : ks.length ≤ 15 := by decide) (hall : keys.all (·.isSome) = true := by rfl) (hle : keys.length = values.length := by rfl) (h0 : keys ≠ [] := by exact fun z => by cases z) (h15' : keys.length ≤ 15 := by decide) :
    Ex X ec W (.Dict keys values pos) (cDispW ks ca) := by
  obtain ⟨trs, h1, h2⟩ := h.ex
  refine (pe_disp h1 hall hle h0 h15').imp fun σ H Q h => ?_
  obtain ⟨w, s, rfl, hr, h⟩ := h
  intro p hp
  refine h2 σ _ _ ?_
  have hh := hr.hold (o := .dK []) hp
  refine ⟨w.hold p (.dK []), s, rfl, hh, ?_⟩
  have back : ∀ {w' : Wd} {s' : S}, Le (w.hold p (.dK [])) w' → Rel ec X.K w' σ s' → Le w (w'.f w.F) ∧ Rel ec X.K (w'.f w.F) σ s' := fun {w' s'} le r => by
    have hq' : ∀ q, w.F q → w'.F q := fun q hq => by
      rw [le.s]
      exact .inl hq
    exact ⟨(Le.hold hp).trans (le.ch w.F), r.f (fun q hq => r.mem.fo q (hq' q hq)) (hr.mem.tab.back r.mem.tab) fun q hq => r.mem.nv.2 q (hq' q hq)⟩
  unfold cDispW at h
  refine Res.mono h.bind (fun es s1 q vs w1 le1 r1 ra => ?_) fun e s' q w' le r => by
    obtain ⟨a, b⟩ := back le r
    exact q (w'.f w.F) a b
  split at q
  rotate_left
  · exact q.elim
  rename_i hc
  obtain ⟨nd, hnp⟩ := hc
  have hF : w1.F p := by
    rw [le1.s]
    exact .inr rfl
  have hH : w1.H p = some (.dK []) := le1.kN (p := p) upd_same (fun m => by
    have m : p ∈ w.r := m
    obtain ⟨u, hu⟩ := hr.live m
    rw [hp] at hu
    cases hu) noTb_k
  refine ⟨hH, (ks.map (Sum.inr : Str → L2.Key)).zip vs, ?_, ?_, ?_⟩
  · have go : ∀ (ks : List Str) (vs : List V), (ks.map fun k => kV (.inr k)).zip vs = ((ks.map (Sum.inr : Str → L2.Key)).zip vs).map fun kv => (kV kv.1, kv.2) := by
      intro ks
      induction ks with
      | nil => intro vs; rfl
      | cons k ks ih =>
        intro vs
        cases vs with
        | nil => rfl
        | cons v vs =>
          show (kV (.inr k), v) :: (ks.map fun k => kV (.inr k)).zip vs = (kV (.inr k), v) :: ((ks.map (Sum.inr : Str → L2.Key)).zip vs).map _
          rw [ih]
    exact go ks vs
  · rw [List.length_zip, List.length_map]
    exact Nat.le_trans (Nat.min_le_left _ _) h15
  · have mb := merge_byT ks vs [] (by simpa using nd)
    have mb : mergeK [] ((ks.map (Sum.inr : Str → L2.Key)).zip vs) = byT (ks.zip vs) := mb
    rw [mb]
    have r2 := r1.rehold (o := .dK (byT (ks.zip vs))) hF hH noTb_k (fun _ z => by cases z) (hr.new0 hp)
    obtain ⟨h3, h4, _⟩ := r1.mem.fo p hF
    have r3 : Rel ec X.K ⟨w1.G, w1.r, w.F, upd w1.H p (.dK (byT (ks.zip vs)))⟩ σ s1 := r2.f (fun q hq => r2.mem.fo q (by
      show w1.F q
      rw [le1.s]
      exact .inl hq)) (hr.mem.tab.back r2.mem.tab) fun q hq => r2.mem.nv.2 q (by
      show w1.F q
      rw [le1.s]
      exact .inl hq)
    have l3 : Le w ⟨w1.G, w1.r, w.F, upd w1.H p (.dK (byT (ks.zip vs)))⟩ := by
      have l1 := (Le.hold (o := .dK []) hp).trans (le1.ch w.F)
      refine ⟨l1.g, fun a u e n => ?_, l1.p, l1.f, rfl, fun a od u e => by show upd w1.H p _ a = _; rw [upd_ne (ne_of_none e hp)]; exact l1.z a od u e⟩
      obtain ⟨u', e', q'⟩ := l1.k a u e n
      refine ⟨u', ?_, q'⟩
      show upd w1.H p _ a = some u'
      rw [upd_ne (ne_of_none e hp)]
      exact e'
    have nf : ¬ w.F p := fun z => by
      obtain ⟨_, _, u, hu⟩ := hr.mem.fo p z
      rw [hp] at hu
      cases hu
    obtain ⟨r4, l4⟩ := cell_inN (w := w) (c := .g (.w (ks.zip es))) (by intro z; cases z) (nv_inG r3.mem.len r3.mem.nv ⟨ks.zip vs, upd_same, zip_C r3.mem.len ks ra⟩) hr.mem.inv l3 r3 ⟨h4, nf⟩ hp ⟨h3, _, upd_same, _, rfl, zip_R ks ra hnp⟩
    refine q (.ref p) _ l4 r4 ⟨p, rfl, ?_⟩ .ref
    show (w1.r ++ [p])[s1.m.length]? = some p
    rw [← r1.mem.len, List.getElem?_append_right (Nat.le_refl _), Nat.sub_self]
    rfl
end
/-! ### what they tell -/
theorem cItW_ok {f : Str} {co : CE} {s s1 : S} {n : Nat} {fs : List (Str × El)} {el : El} (h : co s = .ok (.ref n) s1) (hm : s1.m[n]? = some (.g (.w fs))) (hl : fs.lookup f = some el) : cItW f co s = .ok (elRv el) s1 := by
  unfold cItW cv
  rw [h]
  dsimp only [R.bind]
  rw [hm]
  dsimp only
  rw [hl]
theorem cPutW_ok {f : Str} {co c : CE} {s s1 s2 : S} {n : Nat} {fs : List (Str × El)} {x : D} (h : cv c s = .ok (.d x) s1) (h2 : co s1 = .ok (.ref n) s2) (hm : s2.m[n]? = some (.g (.w fs))) (hl : (fs.map (·.1)).Nodup ∧ fs.length < 1000) : cPutW f co c s = .nx ⟨s2.v, s2.m.set n (.g (.w (putEl f (.d x) fs)))⟩ := by
  unfold cPutW
  rw [h]
  show (cv co s1).out _ = _
  have e : cv co s1 = .ok (.ref n) s2 := by
    unfold cv
    rw [h2]
    rfl
  rw [e]
  rw [out_ok]
  dsimp only
  rw [hm]
  dsimp only
  rw [if_pos hl]
end Vm
namespace Vm
open PySem L2 PySem.Spec PyProof.Rows
/-! ### comprehensions over a list of tuples of data and cells -/
def tgP (i j : Nat) : El → List Sl → Option (List Sl)
  | .p [u1, u2], v => some ((v.set i (elSl u1.el)).set j (elSl u2.el))
  | _, _ => none
def rdGP (ec : EC) (K : Fg) (own : List Nat) (i j : Nat) : TG := fun v σ H Q => ∃ w s e v1, w.H = H ∧ Rel ec K w σ s ∧ ElOk K w.G w.r v e ∧ tgP i j e s.v = some v1 ∧ ∀ σ', Off own σ σ' → Rel ec K w σ' ⟨v1, s.m⟩ → Q σ' H
section
variable {X : Cx} {ec : EC} {W : WX}
theorem g_tupP (i j : Nat) {own : List Nat} {x y : Str} {px py pos : Pos} {kt : Nat} (hN : X.N.Nodup) (ho : i ∈ own) (ho2 : j ∈ own) (hcal : X.calm = true := by rfl) (hi : X.N[i]? = some x := by rfl) (hj : X.N[j]? = some y := by rfl) (hx : Loc X.env.scope x := by first | exact Or.inl rfl | exact Or.inr rfl) (hy : Loc X.env.scope y := by first | exact Or.inl rfl | exact Or.inr rfl)
    (hf : X.fn x = true ∨ X.env.scope.names.lookup x = some .local := by first | exact .inl rfl | exact .inr rfl) (hg : X.fn y = true ∨ X.env.scope.names.lookup y = some .local := by first | exact .inl rfl | exact .inr rfl)
    (h2 : (assignEach [.Name x px, .Name y py] X.env).map (·.2) = assign (.Name x px) X.env :: (assignEach [.Name y py] X.env).map (·.2) := by rfl) (h3 : (assignEach [.Name y py] X.env).map (·.2) = assign (.Name y py) X.env :: (assignEach [] X.env).map (·.2) := by rfl)
    (hn : (assignEach [.Name x px, .Name y py] X.env).length = 2 := by rfl) (hst : (assignEach [.Name x px, .Name y py] X.env).findIdx? (·.1) = none := by rfl) : PG X (.Tuple [.Name x px, .Name y py] kt pos) (rdGP ec X.K own i j) :=
  PG.imp (pg_tup hcal (pgs_cons (pg_name hN hi hx hf) (pgs_cons (pg_name hN hj hy hg) pgs_nil h3) h2) hn hst) fun v σ H Q h => by
    obtain ⟨w, s, e, v1, rfl, hr, rp, et, q⟩ := h
    cases e with
    | d _ => cases et
    | c _ => cases et
    | p us =>
      unfold tgP at et
      split at et
      · rename_i u1 u2 he
        cases he
        cases et
        obtain ⟨a, vs, rfl, hG, pe⟩ := rp
        cases pe with
        | cons q1 t1 =>
          cases t1 with
          | cons q2 t2 =>
            cases t2
            rename_i w1 w2
            refine ⟨a, [w1, w2], rfl, SqT.of (hr.mem.ext _ _ hG), rfl, w1, [w2], rfl, w2, [], rfl, rfl, ?_⟩
            have r2 := hr.set i (elSl_ok q1.el)
            have r3 := r2.set j (elSl_ok q2.el)
            refine q _ ⟨by rw [List.length_set, List.length_set], fun k hk => ?_⟩ r3
            rw [List.getElem?_set_ne fun z => hk (by rw [← z]; exact ho2), List.getElem?_set_ne fun z => hk (by rw [← z]; exact ho)]
      · cases et
def lcP (own : List Nat) (v0 : List Sl) (i j : Nat) (el : CE) : List El → List D → List Cell → R Rv
  | [], acc, m => .ok (.new (.l acc)) ⟨v0, m⟩
  | e :: es, acc, m => match tgP i j e (wipeV v0 own) with
    | none => .bad
    | some v1 => (cv el ⟨v1, m⟩).nx.bind fun a s3 => match a with
        | .d x => lcP own v0 i j el es (acc ++ [x]) s3.m
        | _ => .bad
def cLcP (own : List Nat) (ci : CIE) (i j : Nat) (el : CE) : CE := fun s => (ci s).bind fun es s1 => if es.length ≤ 16000000 then lcP own s1.v i j el es [] s1.m else .bad
theorem lcP_read {σ : L2.St} {H : Hp} {Q : VK} {own : List Nat} {ci : CIE} {k k2 : Nat} {el : CE} (h : rd X.K ec W (cLcP own ci k k2 el) σ H Q) :
    tLc (rdIE X.K ec W ci) (rdGP ec X.K own k k2) (rdT X.K ec W0 ctYes) (rd X.K ec W0 el) own σ H Q := by
  obtain ⟨w, s, rfl, hr, h⟩ := h
  refine ⟨w, s, rfl, hr, ?_⟩
  unfold cLcP at h
  cases e0 : ci s with
  | bad => rw [e0] at h; exact h
  | ex n s' => rw [e0] at h; exact h
  | ok ds s0 =>
    rw [e0] at h
    by_cases hz : ds.length ≤ 16000000
    · simp only [R.bind, hz, if_true] at h
      intro J w0 le0 r0 hJ Dp hD
      have h0 : FinV X.K ec W σ Q w0 (lcP own s0.v k k2 el ds [] s0.m) := FinV.le le0 h
      -- what holds between two turns
      refine ⟨fun i m H1 => ∃ w1 m1 acc vs, w1.H = H1 ∧ w1.F = (fun q => w0.F q ∨ q = Dp) ∧ Le w0 (w1.f w0.F) ∧ Rel ec X.K w1 σ ⟨s0.v, m1⟩ ∧ w1.H Dp = some (.lst vs) ∧ RpAll X.K w1.G vs acc ∧ acc.length ≤ i ∧ i + m = ds.length ∧ FinV X.K ec W σ Q w0 (lcP own s0.v k k2 el (ds.drop i) acc m1),
        ⟨ds.length, w0.hold Dp (.lst []), s0.m, [], [], rfl, rfl, Le.hold hD, r0.hold hD, upd_same, .nil, Nat.le_refl _, Nat.zero_add _, h0⟩, fun i m H1 hW => ?_⟩
      obtain ⟨w1, m1, acc, vs, rfl, hF, le1, r1, hd, ra, hacc, hm, h1⟩ := hW
      have r1f : Rel ec X.K (w1.f w0.F) σ ⟨s0.v, m1⟩ := r1.f (fun q hq => r1.mem.fo q (by rw [hF]; exact .inl hq)) (r0.mem.tab.back r1.mem.tab) fun q hq => r1.mem.nv.2 q (by rw [hF]; exact .inl hq)
      obtain ⟨hgo, hst⟩ := hJ (w1.f w0.F) le1 r1.mem.ext i
      have gD : w1.G Dp = none := (r1.mem.fo Dp (by rw [hF]; exact .inr rfl)).1
      have rD : Dp ∉ w1.r := (r1.mem.fo Dp (by rw [hF]; exact .inr rfl)).2.1
      have fD : ¬ w0.F Dp := fun z => by
        obtain ⟨_, _, o, ho⟩ := r0.mem.fo Dp z
        rw [hD] at ho
        cases ho
      by_cases hi : i < ds.length
      · have hdi : ds[i]? = some ds[i] := List.getElem?_eq_getElem hi
        obtain ⟨g1, g2⟩ := hgo _ hdi
        rw [List.drop_eq_getElem_cons hi] at h1
        unfold lcP at h1
        refine .inr ⟨g1, fun H' => ∃ w' m' acc' vs', w'.H = H' ∧ w'.F = (fun q => w0.F q ∨ q = Dp) ∧ Le w0 (w'.f w0.F) ∧ Rel ec X.K w' σ ⟨s0.v, m'⟩ ∧ w'.H Dp = some (.lst vs') ∧ RpAll X.K w'.G vs' acc' ∧ acc'.length ≤ i + 1 ∧ (i + 1) + (m - 1) = ds.length ∧ FinV X.K ec W σ Q w0 (lcP own s0.v k k2 el (ds.drop (i + 1)) acc' m'),
          fun H' ⟨w', m', acc', vs', a1, a2, a3, a4, a5, a6, a7, a8, a9⟩ => ⟨m - 1, by omega, w', m', acc', vs', a1, a2, a3, a4, a5, a6, a7, a8, a9⟩, fun x H' hy => ?_⟩
        obtain ⟨w2, gr, rfl, rp⟩ := g2 x H' hy
        have gr' : Gr w1 (w2.f w1.F) := ⟨gr.r, rfl, gr.g, gr.h, gr.e, gr.n, gr.t⟩
        have r2 : Rel ec X.K (w2.f w1.F) σ ⟨s0.v, m1⟩ := r1.grow gr'
        cases et : tgP k k2 ds[i] (wipeV s0.v own) with
        | none => rw [et] at h1; exact h1.elim
        | some v1 =>
        rw [et] at h1
        dsimp only at h1
        obtain ⟨s2, hs2⟩ : ∃ s2 : S, (⟨v1, m1⟩ : S) = s2 := ⟨_, rfl⟩
        rw [hs2] at h1
        refine ⟨w2.f w1.F, ⟨wipeV s0.v own, m1⟩, ds[i], v1, rfl, rel_wipe r2 own, rp, et, fun σ' off r3 => ⟨wipe_off off, ?_⟩⟩
        have r3 : Rel ec X.K (w2.f w1.F) σ' ⟨v1, m1⟩ := r3
        rw [hs2] at r3
        refine ⟨w2.f w1.F, s2, rfl, r3, ?_⟩
        intro w3 le3 r4
        have hF3 : w3.F = (fun q => w0.F q ∨ q = Dp) := by rw [le3.s, ← hF]
        have lw3 : Le w0 (w3.f w0.F) := (le1.trans (gr'.le.ch w0.F)).trans (le3.ch w0.F)
        have d2 : (w2.f w1.F).H Dp = some (.lst vs) := gr.h _ _ hd
        have d3 : w3.H Dp = some (.lst vs) := le3.kN (p := Dp) d2 (by
          show Dp ∉ w2.r
          rw [gr.r]
          exact rD) noTb_l
        have ra3 : RpAll X.K w3.G vs acc := ra.mono (gr'.g.trans le3.g)
        have r4' : Rel ec X.K w3 σ ⟨s0.v, s2.m⟩ := rel_mem (m := m1) le3 r2 r4.mem
        rw [if_pos rfl]
        refine ⟨w3, s2, rfl, r4, ?_⟩
        unfold cv at h1
        cases eel : el s2 with
        | bad => simp only [eel, R.bind] at h1; exact h1.elim
        | ex n s' => simp only [eel, R.bind] at h1; exact h1.elim
        | ok a s4 =>
          simp only [eel, R.bind] at h1
          intro y w4 le4 r5 oa fr
          -- the element became data
          have go : ∀ (d : D) (w5 : Wd), w5.H = w4.H → Le w3 w5 → Rel ec X.K w5 σ' s4 → Rp X.K w5.G y d → FinV X.K ec W σ Q w0 (lcP own s0.v k k2 el (ds.drop (i + 1)) (acc ++ [d]) s4.m) → ∃ acc', w4.H Dp = some (.lst acc') ∧ acc'.length < sizeLine ∧ ∃ w' m' acc'' vs', w'.H = upd w4.H Dp (.lst (acc' ++ [y])) ∧ w'.F = (fun q => w0.F q ∨ q = Dp) ∧ Le w0 (w'.f w0.F) ∧ Rel ec X.K w' σ ⟨s0.v, m'⟩ ∧ w'.H Dp = some (.lst vs') ∧ RpAll X.K w'.G vs' acc'' ∧ acc''.length ≤ i + 1 ∧ (i + 1) + (m - 1) = ds.length ∧ FinV X.K ec W σ Q w0 (lcP own s0.v k k2 el (ds.drop (i + 1)) acc'' m') := by
            intro d w5 eH le5 r6 rpd h4
            have hF5 : w5.F = (fun q => w0.F q ∨ q = Dp) := by rw [le5.s, hF3]
            have d5 : w5.H Dp = some (.lst vs) := le5.kN d3 (r4'.mem.fo Dp (by rw [hF3]; exact .inr rfl)).2.1 noTb_l
            have ra5 : RpAll X.K w5.G vs acc := ra3.mono le5.g
            have r6' : Rel ec X.K w5 σ ⟨s0.v, s4.m⟩ := rel_mem (m := s2.m) le5 r4' r6.mem
            have fD5 : w5.F Dp := by rw [hF5]; exact .inr rfl
            have r7 := r6'.rehold (o := .lst (vs ++ [y])) fD5 d5 noTb_l (fun _ z => by cases z) (r0.new0 hD)
            have lw5 : Le w0 (w5.f w0.F) := lw3.trans (le5.ch w0.F)
            have lw7 : Le w0 ((⟨w5.G, w5.r, w5.F, upd w5.H Dp (.lst (vs ++ [y]))⟩ : Wd).f w0.F) := ⟨lw5.g, fun q u e n => by
              obtain ⟨u', e', q'⟩ := lw5.k q u e n
              refine ⟨u', ?_, q'⟩
              show upd w5.H Dp _ q = some u'
              rw [upd_ne (ne_of_none e hD)]
              exact e', lw5.p, lw5.f, rfl, fun a od u e => by show upd w5.H _ _ a = _; rw [upd_ne (ne_of_none e hD)]; exact lw5.z a od u e⟩
            rw [← eH]
            refine ⟨vs, d5, ?_, ⟨w5.G, w5.r, w5.F, upd w5.H Dp (.lst (vs ++ [y]))⟩, s4.m, acc ++ [d], vs ++ [y], rfl, hF5, lw7, r7, upd_same, ra5.append (.cons rpd .nil), ?_, by omega, h4⟩
            · rw [ra5.length]
              exact lt16 (by omega)
            · rw [List.length_append]
              show acc.length + 1 ≤ i + 1
              omega
          cases a with
          | ref n => exact h1.elim
          | t _ _ => exact h1.elim
          | d d => exact go d w4 rfl le4 r5 oa h1
          | new c =>
            cases ed : c.D? with
            | none => simp only [ed] at h1; exact h1.elim
            | some d =>
              simp only [ed] at h1
              obtain ⟨G', r6, le6, rp6⟩ := freeze r5 oa (d := d) ed
              exact go d ⟨G', w4.r, w4.F, w4.H⟩ rfl (le4.trans le6) r6 rp6 h1
      · refine .inl ⟨hst (by omega), ?_⟩
        rw [List.drop_eq_nil_of_le (by omega)] at h1
        exact h1 (.ref Dp) (w1.f w0.F) le1 r1f ⟨Dp, rfl, ⟨rD, fD⟩, gD, vs, hd, ra⟩ fun _ _ p e => by
          cases e
          exact hD
    · simp only [R.bind, hz, if_false] at h
      exact h.elim
theorem e_lcP {elt iter tgt : Expr} {scope : Scope} {own : List (Str × Nat)} {pos : Pos} {k k2 : Nat} {ci : CIE} {el : CE} (hN : X.N.Nodup) (ok : BlkOk X.N X.env.scope scope own) (hi : L2.PI X tgt iter (rdIE X.K ec W ci))
    (hg : ∀ (s : Shared) (H : Hp) (C : Addr) (cl : List (Str × Addr)) (fp : List Addr), PG (X.blk s H scope (compEnvC scope cl C X.env) fp) tgt (rdGP ec X.K (own.map (·.2)) k k2))
    (ht : ∀ (s : Shared) (H : Hp) (C : Addr) (cl : List (Str × Addr)) (fp : List Addr), PTs (X.blk s H scope (compEnvC scope cl C X.env) fp) [] (rdT X.K ec W0 ctYes))
    (he : ∀ (s : Shared) (H : Hp) (C : Addr) (cl : List (Str × Addr)) (fp : List Addr), PE (X.blk s H scope (compEnvC scope cl C X.env) fp) elt (rd X.K ec W0 el)) (hcal : X.calm = true := by rfl) (hs : ∀ x, foldedSetIterable iter X.env x = pure x := by intro _; rfl) :
    Ex X ec W (.ListComp elt [⟨tgt, iter, [], 0⟩] scope pos) (cLcP (own.map (·.2)) ci k k2 el) := (pe_lc hcal hN hi ok hg ht he hs).imp fun σ H Q h => lcP_read h
/-! ### x = []; for t in range(n): y = e; x.append(a tuple of data and cells) -/
def e0s : List El → Option (List E0)
  | [] => some []
  | .d x :: r => match e0s r with
    | some us => some (.d x :: us)
    | none => none
  | .c k :: r => match e0s r with
    | some us => some (.c k :: us)
    | none => none
  | .p _ :: _ => none
theorem e0s_ok {K : Fg} {G : Hp} {r : List Addr} : ∀ {es : List El} {vs : List V} {us : List E0}, Paired (ElOk K G r) vs es → e0s es = some us → Paired (E0Ok K G r) vs us
  | [], _, us, h, e => by
    cases h
    cases e
    exact .nil
  | .d x :: es, _, us, h, e => by
    cases h with
    | cons q t =>
      unfold e0s at e
      split at e
      · rename_i us' e'
        cases e
        exact .cons q (e0s_ok t e')
      · cases e
  | .c k :: es, _, us, h, e => by
    cases h with
    | cons q t =>
      unfold e0s at e
      split at e
      · rename_i us' e'
        cases e
        exact .cons q (e0s_ok t e')
      · cases e
  | .p _ :: es, _, us, h, e => by cases e
def grP (i jj : Nat) (tg : Tg) (e1 el : CE) : List D → List El → S → Out
  | [], acc, s => .nx ⟨s.v.set i (.t false acc), s.m⟩
  | d :: ds, acc, s => match tg d s with
    | none => .bad
    | some s1 => match cv e1 s1 with
      | .ok (.d x) s2 => match el ⟨s2.v.set jj (.d x), s2.m⟩ with
        | .ok (.t true es) s3 => match e0s es with
          | some us => grP i jj tg e1 el ds (acc ++ [.p us]) s3
          | none => .bad
        | _ => .bad
      | _ => .bad
def cGrowP (i jj : Nat) (c : CE) (tg : Tg) (e1 el : CE) : CS := fun s => match cv c ⟨s.v.set i .u, s.m⟩ with
  | .ok (.d (.int n)) s1 => if small62 n = true ∧ (rangeD 0 n.toNat).length ≤ 16000000 ∧ i < s1.v.length then grP i jj tg e1 el (rangeD 0 n.toNat) [] s1 else .bad
  | _ => .bad
theorem b_growP (i jj : Nat) {own : List Nat} {x xy : Str} {a elt tgt ex1 : Expr} {rest : List Stmt} {c e1 el : CE} {tg : Tg} {cr : CS} {pyy pyz px pl pa pr pr2 px2 apos cpos epos fpos : Pos} (hN : X.N.Nodup) (hp : PassesOwn (model X.prog X.w) X.A X.env X.xe) (hn : Ex X ec W a c) (hm : X.mg "range" = none) (hg : PG X tgt (rdG ec X.K own tg)) (he1 : Ex X ec W ex1 e1) (he : Ex X ec W elt el) (hrest : Bx X ec W rest cr)
    (hij : i ≠ jj := by decide) (hjN : X.N[jj]? = some xy := by rfl) (hxy : Loc X.env.scope xy := by first | exact Or.inl rfl | exact Or.inr rfl) (hfy : X.fn xy = true ∨ X.env.scope.names.lookup xy = some .local := by first | exact .inl rfl | exact .inr rfl) (hsy : swapsWith ex1 (some (.Name xy pyy)) pyz.line X.env = pure false := by rfl)
    (hown : i ∉ own := by decide) (hcal : X.calm = true := by rfl) (hi : X.N[i]? = some x := by rfl) (hx : Loc X.env.scope x := by first | exact Or.inl rfl | exact Or.inr rfl) (hv : Vis X.env.scope x := by first | exact Or.inl rfl | exact Or.inr (Or.inl rfl) | exact Or.inr (Or.inr rfl))
    (hd : (x == ("__debug__" : Str)) = false := by decide) (hcd : (x == ("__classdict__" : Str)) = false := by decide)
    (hs1 : swapsWith (.List [] pl) (some (.Name x px)) pa.line X.env = pure false := by rfl) (hf : X.fn x = true ∨ X.env.scope.names.lookup x = some .local := by first | exact .inl rfl | exact .inr rfl)
    (hgr : Gl X "range" := by rfl) (hsr : starEach [a] X.env = [(false, eval a X.env)] := by rfl) (h0 : starEach [a] X.env = (false, eval a X.env) :: starEach [] X.env := by rfl)
    (hfold : ∀ v, foldedSetIterable (.Call (.Name "range" pr) [a] [] pr2) X.env v = pure v := by intro _; rfl)
    (hbase : attributeBase (.Name x px2) "append" X.env (eval (.Name x px2) X.env) = eval (.Name x px2) X.env := by rfl)
    (hfew : ((backTo cpos (starEach [elt] X.env)).all (fun x => !x.1) && (backToKw cpos (keywordEach [] X.env)).all (fun x => x.1.isSome) && decide (([elt] : List Expr).length + ([] : List Keyword).length + (if ([] : List Keyword).isEmpty then 0 else 1) < 30)) = true := by rfl)
    (hline : (apos.endLine == cpos.line) = true := by rfl) (hse : starEach [elt] X.env = (false, eval elt X.env) :: starEach [] X.env := by rfl) (hplain : (backTo cpos (starEach [] X.env)).any (·.1) = false := by rfl)
    (hsw : swapsWith (.Call (.Attribute (.Name x px2) "append" apos) [elt] [] cpos) none epos.line X.env = pure false := by rfl) :
    Bx X ec W (.Assign [.Name x px] (.List [] pl) pa :: .For tgt (.Call (.Name "range" pr) [a] [] pr2) [.Assign [.Name xy pyy] ex1 pyz, .Expr (.Call (.Attribute (.Name x px2) "append" apos) [elt] [] cpos) epos] [] fpos :: rest) (cSeq (cGrowP i jj c tg e1 el) cr) := by
  refine (pss_cons (ps_set hN hi hx (pe_lst pa_nil) hs1 hf) (pss_cons (ps_for hp hcal (pi_range1 hgr hm (pa_cons hn pa_nil h0) hsr) hg (pss_cons (ps_set hN hjN hxy he1 hsy hfy) (pss_one (ps_expr (pe_bm F.plainAttrs_list F.slot_list_append F.type_list_append mt_append (pe_var hi hv hd hcd) (pa_cons he pa_nil hse) hbase hfew hline hse hplain) hsw))) hfold) hrest)).imp fun D σ H h => ?_
  obtain ⟨w, s, rfl, hr, h⟩ := h
  refine ⟨Nat.zero_le _, fun p hp0 => ?_⟩
  have rh := (hr.hold (o := .lst []) hp0).set i (x := .ref p) (sl := .u) trivial
  have n0 := hr.new0 hp0
  have h : OOk X.K ec W D w (thenO cr (cGrowP i jj c tg e1 el s)) := by
    unfold cSeq at h
    cases e : cGrowP i jj c tg e1 el s <;> rw [e] at h <;> exact h
  unfold cGrowP at h
  show rd X.K ec W c (σ.set i (some (.ref p))) (w.hold p (.lst [])).H _
  refine run_cv (α := Int) (P := fun n s1 => OOk X.K ec W D w (thenO cr (if small62 n = true ∧ (rangeD 0 n.toNat).length ≤ 16000000 ∧ i < s1.v.length then grP i jj tg e1 el (rangeD 0 n.toNat) [] s1 else .bad))) (k := fun a s1 => match a with
    | .d (.int n) => .ok n s1
    | _ => .bad) rh ?_ fun y w1 s1 a le1 hr1 ha _ h1 => ?_
  · cases e : cv c ⟨s.v.set i .u, s.m⟩ with
    | bad => rw [e] at h; exact h.elim
    | ex n s' => rw [e] at h; exact h.elim
    | ok a s1 =>
      rw [e] at h
      cases a with
      | d y =>
        cases y with
        | int n => exact h
        | _ => exact h.elim
      | _ => exact h.elim
  cases a with
  | ref n => exact h1.elim
  | t _ _ => exact h1.elim
  | new c => exact h1.elim
  | d y =>
    have ha : Rp X.K w1.G _ y := ha
    cases y with
    | none => exact h1.elim
    | bool _ => exact h1.elim
    | str _ => exact h1.elim
    | list _ => exact h1.elim
    | tuple _ => exact h1.elim
    | dict _ => exact h1.elim
    | int n =>
      cases ha
      have h1 : OOk X.K ec W D w (thenO cr (if small62 n = true ∧ (rangeD 0 n.toNat).length ≤ 16000000 ∧ i < s1.v.length then grP i jj tg e1 el (rangeD 0 n.toNat) [] s1 else .bad)) := h1
      by_cases hq : small62 n = true ∧ (rangeD 0 n.toNat).length ≤ 16000000 ∧ i < s1.v.length
      rotate_left
      · rw [if_neg hq] at h1
        exact h1.elim
      rw [if_pos hq] at h1
      have hq1 := of_decide_eq_true hq.1
      have hN16 := hq.2.1
      refine ⟨n, rfl, hq1.1, hq1.2, ?_⟩
      obtain ⟨ds, hds⟩ : ∃ ds, rangeD 0 n.toNat = ds := ⟨_, rfl⟩
      have it := fun (w : Wd) => it_range (K := X.K) (w := w) (lo := 0) (n := n.toNat)
      rw [hds] at h1 hN16 it
      generalize Itr 0 n.toNat = J at it ⊢
      have F1 : w1.F = (fun q => w.F q ∨ q = p) := le1.s
      have lw1 : Le w (w1.f w.F) := (Le.hold hp0).trans (le1.ch w.F)
      have d1 : w1.H p = some (.lst []) := le1.kN (p := p) upd_same (rh.mem.fo p (.inr rfl)).2.1 noTb_l
      have il : i < σ.length := by
        have e := hr1.len
        rw [List.length_set] at e
        rw [e]
        exact hq.2.2
      refine ⟨fun j m σ1 H1 => ∃ w1 s1 acc vs, w1.H = H1 ∧ w1.F = (fun q => w.F q ∨ q = p) ∧ Le w (w1.f w.F) ∧ Rel ec X.K w1 σ1 s1 ∧ σ1[i]? = some (some (.ref p)) ∧ w1.H p = some (.lst vs) ∧ Paired (ElOk X.K w1.G w1.r) vs acc ∧ acc.length ≤ j ∧ j + m = ds.length ∧ OOk X.K ec W D w (thenO cr (grP i jj tg e1 el (ds.drop j) acc s1)),
        ⟨ds.length, w1, s1, [], [], rfl, F1, lw1, hr1, List.getElem?_set_self il, d1, .nil, Nat.le_refl _, Nat.zero_add _, h1⟩, fun j m σ1 H1 hW => ?_⟩
      clear h1 d1 lw1 F1 le1 hr1
      obtain ⟨w1, s1, acc, vs, rfl, hF, le1, r1, hσ, hd, ra, hacc, hm, h1⟩ := hW
      obtain ⟨hgo, hst⟩ := it w1 w1 (Le.refl _) r1.mem.ext j
      have gD : w1.G p = none := (r1.mem.fo p (by rw [hF]; exact .inr rfl)).1
      have rD : p ∉ w1.r := (r1.mem.fo p (by rw [hF]; exact .inr rfl)).2.1
      have fD : ¬ w.F p := fun z => by
        obtain ⟨_, _, o, ho⟩ := hr.mem.fo p z
        rw [hp0] at ho
        cases ho
      by_cases hj : j < ds.length
      · have hdi : ds[j]? = some ds[j] := List.getElem?_eq_getElem hj
        obtain ⟨g1, g2⟩ := hgo _ hdi
        rw [List.drop_eq_getElem_cons hj] at h1
        unfold grP at h1
        refine .inr ⟨g1, fun σ' H' => ∃ w' s' acc' vs', w'.H = H' ∧ w'.F = (fun q => w.F q ∨ q = p) ∧ Le w (w'.f w.F) ∧ Rel ec X.K w' σ' s' ∧ σ'[i]? = some (some (.ref p)) ∧ w'.H p = some (.lst vs') ∧ Paired (ElOk X.K w'.G w'.r) vs' acc' ∧ acc'.length ≤ j + 1 ∧ (j + 1) + (m - 1) = ds.length ∧ OOk X.K ec W D w (thenO cr (grP i jj tg e1 el (ds.drop (j + 1)) acc' s')),
          fun σ' H' ⟨w', s', acc', vs', a1, a2, a3, a4, a5, a6, a7, a8, a9, a10⟩ => ⟨m - 1, by omega, w', s', acc', vs', a1, a2, a3, a4, a5, a6, a7, a8, a9, a10⟩, fun y H' hy => ?_⟩
        obtain ⟨w2, gr, rfl, rp⟩ := g2 y H' hy
        have r2 : Rel ec X.K w2 σ1 s1 := r1.grow gr
        cases et : tg ds[j] s1 with
        | none => rw [et] at h1; exact h1.elim
        | some s2 =>
          rw [et] at h1
          dsimp only at h1
          refine ⟨w2, s1, ds[j], rfl, r2, rp, s2, et, fun σ' off r3 => ?_⟩
          have d2 : w2.H p = some (.lst vs) := gr.h _ _ hd
          have hF2 : w2.F = (fun q => w.F q ∨ q = p) := by rw [gr.f, hF]
          have ra2 : Paired (ElOk X.K w2.G w2.r) vs acc := els_mono gr.g (fun k q z => by rw [gr.r]; exact z) ra
          have lw2 : Le w (w2.f w.F) := le1.trans (gr.le.ch w.F)
          refine run_cv (α := PyData) (P := fun x s3 => OOk X.K ec W D w (thenO cr (match el ⟨s3.v.set jj (.d x), s3.m⟩ with
            | .ok (.t true es) s4 => (match e0s es with
              | some us => grP i jj tg e1 el (ds.drop (j + 1)) (acc ++ [.p us]) s4
              | none => .bad)
            | _ => .bad))) (k := fun a s3 => match a with
            | .d x => .ok x s3
            | _ => .bad) r3 ?_ fun v w3 s3 a le3 r4 ha _ h3 => ?_
          · cases ecv : cv e1 s2 with
            | bad => rw [ecv] at h1; exact h1.elim
            | ex n s' => rw [ecv] at h1; exact h1.elim
            | ok a s3 =>
              rw [ecv] at h1
              cases a with
              | d x => exact h1
              | _ => exact h1.elim
          cases a with
          | ref n => exact h3.elim
          | t _ _ => exact h3.elim
          | new c => exact h3.elim
          | d x =>
          have r4' := r4.set jj (x := v) (sl := .d x) ⟨v, rfl, ha⟩
          have hσ' : (σ'.set jj (some v))[i]? = some (some (.ref p)) := by
            rw [List.getElem?_set_ne (Ne.symm hij), off.2 i hown]
            exact hσ
          have d3 : w3.H p = some (.lst vs) := le3.kN d2 (r2.mem.fo p (by rw [hF2]; exact .inr rfl)).2.1 noTb_l
          have hF3 : w3.F = (fun q => w.F q ∨ q = p) := by rw [le3.s, hF2]
          have ra3 : Paired (ElOk X.K w3.G w3.r) vs acc := els_mono le3.g (fun k q z => le3.cell z) ra2
          have lw3 : Le w (w3.f w.F) := lw2.trans (le3.ch w.F)
          refine ⟨.ref p, hσ', .inl ⟨rfl, vs, SqL.of d3⟩, w3, ⟨s3.v.set jj (.d x), s3.m⟩, rfl, r4', ?_⟩
          have h3 : OOk X.K ec W D w (thenO cr (match el ⟨s3.v.set jj (.d x), s3.m⟩ with
            | .ok (.t true es) s4 => (match e0s es with
              | some us => grP i jj tg e1 el (ds.drop (j + 1)) (acc ++ [.p us]) s4
              | none => .bad)
            | _ => .bad)) := h3
          cases eel : el ⟨s3.v.set jj (.d x), s3.m⟩ with
          | bad => rw [eel] at h3; exact h3.elim
          | ex n s' => rw [eel] at h3; exact h3.elim
          | ok a s4 =>
            rw [eel] at h3
            intro y w4 le4 r5 oa fr
            cases a with
            | d _ => exact h3.elim
            | ref _ => exact h3.elim
            | new _ => exact h3.elim
            | t b es =>
              cases b with
              | false => exact h3.elim
              | true =>
                dsimp only at h3
                cases eus : e0s es with
                | none => rw [eus] at h3; exact h3.elim
                | some us =>
                  rw [eus] at h3
                  dsimp only at h3
                  obtain ⟨qa, vq, rfl, hG, pe⟩ := oa
                  have hF5 : w4.F = (fun q => w.F q ∨ q = p) := by rw [le4.s, hF3]
                  have d5 : w4.H p = some (.lst vs) := le4.kN d3 (r4.mem.fo p (by rw [hF3]; exact .inr rfl)).2.1 noTb_l
                  have ra5 : Paired (ElOk X.K w4.G w4.r) vs acc := els_mono le4.g (fun k q z => le4.cell z) ra3
                  have fD5 : w4.F p := by rw [hF5]; exact .inr rfl
                  have r7 := r5.rehold (o := .lst (vs ++ [.ref qa])) fD5 d5 noTb_l (fun _ z => by cases z) n0
                  have lw5 : Le w (w4.f w.F) := lw3.trans (le4.ch w.F)
                  have lw7 : Le w ((⟨w4.G, w4.r, w4.F, upd w4.H p (.lst (vs ++ [.ref qa]))⟩ : Wd).f w.F) := ⟨lw5.g, fun b u e n => by
                    obtain ⟨u', e', q'⟩ := lw5.k b u e n
                    refine ⟨u', ?_, q'⟩
                    show upd w4.H p _ b = some u'
                    rw [upd_ne (ne_of_none e hp0)]
                    exact e', lw5.p, lw5.f, rfl, fun a od u e => by show upd w4.H _ _ a = _; rw [upd_ne (ne_of_none e hp0)]; exact lw5.z a od u e⟩
                  refine ⟨p, vs, .ref qa, rfl, rfl, d5, ?_, ⟨w4.G, w4.r, w4.F, upd w4.H p (.lst (vs ++ [.ref qa]))⟩, s4, acc ++ [.p us], vs ++ [.ref qa], rfl, hF5, lw7, r7, hσ', upd_same, els_app ra5 (.cons (show ElOk X.K w4.G w4.r (.ref qa) (.p us) from ⟨qa, vq, rfl, hG, e0s_ok pe eus⟩) .nil), ?_, by omega, h3⟩
                  · rw [Paired.length ra5]
                    exact lt16 (by omega)
                  · rw [List.length_append]
                    show acc.length + 1 ≤ j + 1
                    omega
      · refine .inl ⟨hst (by omega), ?_⟩
        rw [List.drop_eq_nil_of_le (by omega)] at h1
        have r1f : Rel ec X.K (w1.f w.F) σ1 s1 := r1.f (fun q hq => r1.mem.fo q (by rw [hF]; exact .inl hq)) (hr.mem.tab.back r1.mem.tab) fun q hq => r1.mem.nv.2 q (by rw [hF]; exact .inl hq)
        obtain ⟨r2, le2⟩ := ground_in r1f (p := p) (o := .lst vs) ⟨rD, fD⟩ gD hd noTb_l
        have vt : VtOk X.K (upd w1.G p (.lst vs)) w1.r (.ref p) false acc := ⟨p, vs, rfl, upd_same, els_mono le2.g (fun _ _ q => q) ra⟩
        refine ⟨⟨upd w1.G p (.lst vs), w1.r, w.F, w1.H⟩, ⟨s1.v.set i (.t false acc), s1.m⟩, rfl, ⟨r2.mem, ?_, fun k sl ek => ?_⟩, OOk.le (le1.trans le2) h1⟩
        · show σ1.length = (s1.v.set i _).length
          rw [List.length_set]
          exact r2.len
        · have ek : (s1.v.set i (.t false acc))[k]? = some sl := ek
          by_cases hk : i = k
          · subst hk
            have hl : i < s1.v.length := by
              rw [← r2.len]
              exact (List.getElem?_eq_some_iff.mp hσ).1
            rw [List.getElem?_set_self hl] at ek
            cases ek
            exact ⟨.ref p, hσ, vt⟩
          · rw [List.getElem?_set_ne hk] at ek
            exact r2.slot k sl ek
end
end Vm
namespace Vm
open PySem L2 PySem.Spec PyProof.Rows
/-! ### list(d), d a dict that is a cell -/
def opListK : Od → Option Rv
  | .c (.k kvs) => some (.new (.l (kvs.map fun p => kD p.1)))
  | _ => none
theorem kv_keys {K : Fg} {G : Hp} : ∀ {ws : List (L2.Key × V)} {kvs : List (L2.Key × D)}, KvAll K G ws kvs → RpAll K G (ws.map fun kv => kV kv.1) (kvs.map fun p => kD p.1)
  | _, _, .nil => .nil
  | (k, v) :: ws, (k', d) :: kvs, .cons r t => by
    obtain ⟨e1, _⟩ := r
    have e1 : k = k' := e1
    subst e1
    exact .cons (by cases k <;> first | exact .int _ | exact .str _) (kv_keys t)
theorem s_listK {K : Fg} : Op1S K (fun v H Q => ∃ (a : Addr) (kvs : List (L2.Key × V)), [v] = [.ref a] ∧ L2.Rd H a (.dK kvs) ∧ ∀ p, H p = none → Q (.ref p) (upd H p (.lst (kvs.map fun kv => kV kv.1)))) opListK := by
  intro w x o rv Q hx h e q
  unfold opListK at e
  split at e
  · rename_i kvs
    cases e
    obtain ⟨p, rfl, ⟨_, ws, hw, ra⟩, _⟩ := h
    exact ⟨p, ws, rfl, .inl hw, fun l hl => post_lst q (kv_keys ra) hl hx⟩
  · cases e
theorem e_listK {X : Cx} {ec : EC} {W : WX} {a : Expr} {ca : CE} {p pos : Pos} (hm : X.mg "list" = none) (ha : Ex X ec W a ca) (hc : X.calm = true := by rfl) (hg : Gl X "list" := by rfl) (h1 : starEach [a] X.env = (false, eval a X.env) :: starEach [] X.env := by rfl) (h2 : (backTo pos (starEach [] X.env)).any (·.1) = false := by rfl) :
    Ex X ec W (.Call (.Name "list" p) [a] [] pos) (cOp1 opListK ca) :=
  e_callT1 (call_listD hc) s_listK hm (by decide +kernel) ha hg (by decide) (by decide) h1 h2
end Vm
namespace Vm
open PySem L2
def c_chosen : CS :=
 (cSeq (cSet 2 (cOp2 opIx (cVar 1) (cC (.int 0))))
 (cSeq (cFor (ciSeq (cVar 1)) (tgN 3)
 (cIfS (cB (cOp2 opLt (cOp2 opIx (cVar 0) (cVar 3)) (cOp2 opIx (cVar 0) (cVar 2))))
 (cSet 2 (cVar 3))
 cNx))
 (cRet (cVar 2))))
abbrev f_chosen : Fn := fChosen
def c_is_whole : CS :=
 (cRet (cAnd (cOp1 (opIsi "int") (cVar 0)) (cNot (cOp1 (opIsi "bool") (cVar 0)))))
abbrev f_is_whole : Fn := fWhole
def c_sorted_load : CS :=
 (cRet (cOp1 opTuple (cOp1 opSortTD (cVar 0))))
abbrev f_sorted_load : Fn := fLoadOf
def c__law_pen : CS :=
 (cRet (cDisp [(.inr "cells"), (.inr "at"), (.inr "left")] (cCons (cSl (cVar 0) (cPt none) (cPt (some (cC (.int 63))))) (cCons (cC (.int 0)) (cCons (cC (.int 0)) cNil)))))
abbrev f__law_pen : Fn := fPen
def c__law_draw : CS :=
 (cSeq (cIfS (cB (cOp2 opGt (cOp2 opItem (cVar 0) (cC (.str "left"))) (cC (.int 0))))
 (cSeq (cSet 2 (cOp2 opMod (cOp2 opItem (cVar 0) (cC (.str "left"))) (cVar 1)))
 (cSeq (cPut (cVar 0) (cC (.str "left")) (cOp2 opDiv (cOp2 opItem (cVar 0) (cC (.str "left"))) (cVar 1)))
 (cRet (cVar 2))))
 cNx)
 (cSeq (cSet 3 (cOp2 opItem (cVar 0) (cC (.str "at"))))
 (cSeq (cPut (cVar 0) (cC (.str "at")) (cOp2 opAdd (cVar 3) (cC (.int 1))))
 (cSeq (cSet 4 (cOp2 opAdd (cOp2 opMulV (cC (.int 23)) (cVar 3)) (cC (.int 5))))
 (cSeq (cIfS (cB (cOp2 opGt (cOp1 opLen (cOp2 opItem (cVar 0) (cC (.str "cells")))) (cC (.int 0))))
 (cSet 4 (cOp2 opIx (cOp2 opItem (cVar 0) (cC (.str "cells"))) (cOp2 opMod (cVar 3) (cOp1 opLen (cOp2 opItem (cVar 0) (cC (.str "cells")))))))
 cNx)
 (cSeq (cIfS (tAnd' (cB (cOp2 opLt (cVar 3) (cOp1 opLen (cOp2 opItem (cVar 0) (cC (.str "cells")))))) (cB (cOp2 opGe (cOp1 opAbs (cVar 4)) (cOp2 opPow (cC (.int 10)) (cC (.int 18))))))
 (cSeq (cPut (cVar 0) (cC (.str "left")) (cOp2 opDiv (cOp1 opAbs (cVar 4)) (cVar 1)))
 (cRet (cOp2 opMod (cOp1 opAbs (cVar 4)) (cVar 1))))
 cNx)
 (cSeq (cSet 5 (cOp2 opIx (cTup (cCons (cC (.int 2147483647)) (cCons (cC (.int 2147483629)) (cCons (cC (.int 2147483587)) (cCons (cC (.int 2147483579)) (cCons (cC (.int 2147483563)) (cCons (cC (.int 2147483549)) (cCons (cC (.int 2147483543)) cNil)))))))) (cOp2 opMod (cVar 3) (cC (.int 7)))))
 (cSeq (cSet 6 (cOp2 opMod (cOp2 opPow (cOp2 opAdd (cOp2 opAdd (cOp2 opAdd (cOp2 opMod (cVar 4) (cC (.int 2147483497))) (cOp2 opMulV (cOp2 opMulV (cC (.int 75329)) (cVar 3)) (cVar 3))) (cOp2 opMulV (cC (.int 30011)) (cVar 3))) (cC (.int 271))) (cC (.int 3))) (cVar 5)))
 (cSeq (cSet 6 (cOp2 opMod (cOp2 opPow (cOp2 opAdd (cOp2 opAdd (cVar 6) (cOp2 opMulV (cC (.int 11)) (cVar 3))) (cC (.int 5))) (cC (.int 2))) (cC (.int 2147483489))))
 (cRet (cOp2 opMod (cOp2 opDiv (cOp2 opMod (cOp2 opMulV (cVar 6) (cC (.int 69621))) (cC (.int 2147483477))) (cC (.int 1013))) (cVar 1))))))))))))
abbrev f__law_draw : Fn := fDrawA
def c__law_is_whole : CS :=
 (cRet (cAnd (cOp1 (opIsi "int") (cVar 0)) (cNot (cOp1 (opIsi "bool") (cVar 0)))))
abbrev f__law_is_whole : Fn := fWhole
def c__law_heard (ask : List Cell → RF) : CS :=
 (cSeq (cSet 1 (cC .none))
 (cSeq (cSet 2 (cC .none))
 (cSeq (cTry ["NoBack", "NoBall", "TooMany"] 3 1
 (cSet 2 (cAsk ask)))
 (cSeq (cIfS (cB (cIsN 1))
 (cRet (cLst (cCons (cVar 2) cNil)))
 cNx)
 (cSeq (cSet 4 (cLst (cCons (cIsX 1 "NoShare") (cCons (cIsX 1 "NoBall") (cCons (cIsX 1 "Unlike") cNil)))))
 (cSeq (cSet 4 (cOp2 opAdd (cVar 4) (cLst (cCons (cIsX 1 "Fuller") (cCons (cIsX 1 "TooMany") (cCons (cIsX 1 "NoBack") cNil))))))
 (cSeq (cSet 4 (cOp2 opAdd (cVar 4) (cLst (cCons (cIsX 1 "NoName") (cCons (cIsX 1 "NoText") (cCons (cIsX 1 "NoRow") cNil))))))
 (cSeq (cIfS (tOr' (cB (cOp2 opNe (cMt1 "list" opCount (cVar 4) (cC (.bool true))) (cC (.int 1)))) (tNot' (cTru (cIsX 1 "ValueError"))))
 (cRet (cC (.str "odd")))
 cNx)
 (cRet (cOp2 opIx (cLst (cCons (cC (.str "share")) (cCons (cC (.str "ball")) (cCons (cC (.str "unlike")) (cCons (cC (.str "fuller")) (cCons (cC (.str "many")) (cCons (cC (.str "back")) (cCons (cC (.str "name")) (cCons (cC (.str "text")) (cCons (cC (.str "row")) cNil)))))))))) (cMt1 "list" opIndex (cVar 4) (cC (.bool true)))))))))))))
def f__law_heard : Hn := runH 5 c__law_heard
def c__law_counts : CS :=
 (cSeq (cSetM 1 (cOp2 opMulV (cLst (cCons (cC (.int 0)) cNil)) (cItW "boxes" (cVar 0))))
 (cSeq (lkS (pkF 0 "lying") (cFor (ciKeyL (cItW "lying" (cVar 0))) (tgN 2)
 (cPutL (cVar 1) (cOp2 opItem (cItW "lying" (cVar 0)) (cVar 2)) (cOp2 opAdd (cOp2 opIx (cVar 1) (cOp2 opItem (cItW "lying" (cVar 0)) (cVar 2))) (cC (.int 1))))))
 (cRet (cVar 1))))
def f__law_counts : Fn := runF 3 c__law_counts
def c_Room__stand : CS :=
 (cSeq (cSetM 1 (cLc [3] (ciR1 (cFld "Room" "many" (cVar 0))) (tgN 3) ctYes (cC (.int 0))))
 (cSeq (lkS (pkF 0 "lying") (cFor (ciKeyL (cFld "Room" "lying" (cVar 0))) (tgN 2)
 (cPutL (cVar 1) (cOp2 opItem (cFld "Room" "lying" (cVar 0)) (cVar 2)) (cOp2 opAdd (cOp2 opIx (cVar 1) (cOp2 opItem (cFld "Room" "lying" (cVar 0)) (cVar 2))) (cC (.int 1))))))
 (cRet (cOp1 opTuple (cVar 1)))))
abbrev f_Room__stand : Fn := fStandR
def c_Room__put : CS :=
 (cSeq (cIfS (cB (cOp2 opEq (cOp1 opLen (cFld "Room" "lying" (cVar 0))) (cC (.int 60))))
 (cRaise "TooMany")
 cNx)
 (cSeq (cSet 2 (cCallP f_chosen (lCons (cMeth "Room" "stand" f_Room__stand (cVar 0) lNil) (lCons (cVar 1) lNil))))
 (cSeq (cSet 3 (cFld "Room" "known" (cVar 0)))
 (cSeq (cFldPut "Room" "known" (cVar 0) (cOp2 opAdd (cVar 3) (cC (.int 1))))
 (cSeq (cPut (cFld "Room" "lying" (cVar 0)) (cVar 3) (cVar 2))
 (cSeq (cExp (cMut fApp (cFld "Room" "past" (cVar 0)) (cCons (cTup (cCons (cC (.bool true)) (cCons (cVar 3) (cCons (cVar 2) cNil)))) cNil)))
 (cRet (cTup (cCons (cVar 3) (cCons (cVar 2) cNil))))))))))
abbrev f_Room__put : Fn := fPutR
def c__law_put_right : CS :=
 (cSeq (cSet 3 (cCall f__law_counts (lCons (cVar 1) lNil)))
 (cSeq (cSet 4 (cOp1 opMin (cLc [5] (ciSeq (cVar 2)) (tgN 5) ctYes (cOp2 opIx (cVar 3) (cVar 5)))))
 (cSeq (cSet 5 (cOp2 opIx (cLc [8] (ciSeq (cVar 2)) (tgN 8) (cB (cOp2 opEq (cOp2 opIx (cVar 3) (cVar 8)) (cVar 4))) (cVar 8)) (cC (.int 0))))
 (cSeq (cSet 6 (cHeard f__law_heard (cMeth "Room" "put" f_Room__put (cVar 0) (lCons (cVar 2) lNil))))
 (cSeq (cIfS (cB (cOp2 opEq (cOp1 opLen (cItW "lying" (cVar 1))) (cC (.int 60))))
 (cRet (cOp2 opEq (cVar 6) (cC (.str "many"))))
 cNx)
 (cSeq (cSet 7 (cItW "known" (cVar 1)))
 (cSeq (cPutW "known" (cVar 1) (cOp2 opAdd (cVar 7) (cC (.int 1))))
 (cSeq (cPut (cItW "lying" (cVar 1)) (cVar 7) (cVar 5))
 (cSeq (cExp (cMut fApp (cItW "past" (cVar 1)) (cCons (cTup (cCons (cC (.str "come")) (cCons (cVar 7) (cCons (cVar 5) cNil)))) cNil)))
 (cRet (cAnd (cOp2 opEq (cVar 6) (cLst (cCons (cTup (cCons (cVar 7) (cCons (cVar 5) cNil))) cNil))) (cOp1 opAll (cLc [8] (ciSeq (cOp2 opIx (cVar 6) (cC (.int 0)))) (tgN 8) ctYes (cCallP f__law_is_whole (lCons (cVar 8) lNil)))))))))))))))
def f__law_put_right : Fn := runF 9 c__law_put_right
def c_Room__where : CS :=
 (cSeq (cIfS (tOr' (tNot' (cTru (cCallP f_is_whole (lCons (cVar 1) lNil)))) (cB (cOp2r opHasNot (cVar 1) (cFld "Room" "lying" (cVar 0)))))
 (cRaise "NoBall")
 cNx)
 (cRet (cOp2 opItem (cFld "Room" "lying" (cVar 0)) (cVar 1))))
abbrev f_Room__where : Fn := fWhereR
def c_Room__leave : CS :=
 (cSeq (cSet 2 (cMeth "Room" "where" f_Room__where (cVar 0) (lCons (cVar 1) lNil)))
 (cSeq (cExp (cDPop (cFld "Room" "lying" (cVar 0)) (cVar 1)))
 (cSeq (cExp (cMut fApp (cFld "Room" "past" (cVar 0)) (cCons (cTup (cCons (cC (.bool false)) (cCons (cVar 1) (cCons (cVar 2) cNil)))) cNil)))
 (cRet (cVar 2)))))
abbrev f_Room__leave : Fn := fLeaveR
def c__law_leave_right : CS :=
 (cSeq (cSet 3 (cHeard f__law_heard (cMeth "Room" "leave" f_Room__leave (cVar 0) (lCons (cVar 2) lNil))))
 (cSeq (cIfS (tOr' (tNot' (cTru (cCallP f__law_is_whole (lCons (cVar 2) lNil)))) (cB (cOp2r opHasNot (cVar 2) (cItW "lying" (cVar 1)))))
 (cRet (cChain opEq opEq (cVar 3) (cC (.str "ball")) (cHeard f__law_heard (cMeth "Room" "where" f_Room__where (cVar 0) (lCons (cVar 2) lNil)))))
 cNx)
 (cSeq (cSet 4 (cDPop (cItW "lying" (cVar 1)) (cVar 2)))
 (cSeq (cExp (cMut fApp (cItW "past" (cVar 1)) (cCons (cTup (cCons (cC (.str "gone")) (cCons (cVar 2) (cCons (cVar 4) cNil)))) cNil)))
 (cRet (cAnd (cOp2 opEq (cVar 3) (cLst (cCons (cVar 4) cNil))) (cOp2 opEq (cHeard f__law_heard (cMeth "Room" "where" f_Room__where (cVar 0) (lCons (cVar 2) lNil))) (cC (.str "ball")))))))))
def f__law_leave_right : Fn := runF 5 c__law_leave_right
def c_Room__back : CS :=
 (cSeq (cIfS (cB (cOp2 opEq (cFld "Room" "past" (cVar 0)) (cLst cNil)))
 (cRaise "NoBack")
 cNx)
 (cSeq (cAsg (tgTup 3 (tgCons (tgN 1) (tgCons (tgN 2) (tgCons (tgN 3) tgNil)))) (cMut fPop (cFld "Room" "past" (cVar 0)) cNil))
 (cSeq (cIfS (cTru (cVar 1))
 (cExp (cDPop (cFld "Room" "lying" (cVar 0)) (cVar 2)))
 (cPut (cFld "Room" "lying" (cVar 0)) (cVar 2) (cVar 3)))
 (cRet (cVar 2)))))
abbrev f_Room__back : Fn := fBackR
def c__law_back_right : CS :=
 (cSeq (cSet 2 (cHeard f__law_heard (cMeth "Room" "back" f_Room__back (cVar 0) lNil)))
 (cSeq (cIfS (cB (cOp2 opEq (cItW "past" (cVar 1)) (cLst cNil)))
 (cRet (cOp2 opEq (cVar 2) (cC (.str "back"))))
 cNx)
 (cSeq (cAsg (tgTup 3 (tgCons (tgN 3) (tgCons (tgN 4) (tgCons (tgN 5) tgNil)))) (cMut fPop (cItW "past" (cVar 1)) cNil))
 (cSeq (cIfS (cB (cOp2 opEq (cVar 3) (cC (.str "come"))))
 (cExp (cDPop (cItW "lying" (cVar 1)) (cVar 4)))
 (cPut (cItW "lying" (cVar 1)) (cVar 4) (cVar 5)))
 (cRet (cOp2 opEq (cVar 2) (cLst (cCons (cVar 4) cNil))))))))
def f__law_back_right : Fn := runF 6 c__law_back_right
def c_Room__load : CS :=
 (cRet (cCallP f_sorted_load (lCons (cMeth "Room" "stand" f_Room__stand (cVar 0) lNil) lNil)))
def f_Room__load : Fn := runF 1 c_Room__load
def c__law_shown_right : CS :=
 (cSeq (cSet 2 (cCall f__law_counts (lCons (cVar 1) lNil)))
 (cSeq (cIfS (tOr' (cB (cOp2 opNe (cMeth "Room" "stand" f_Room__stand (cVar 0) lNil) (cOp1 opTuple (cVar 2)))) (cB (cOp2 opNe (cMeth "Room" "load" f_Room__load (cVar 0) lNil) (cOp1 opTuple (cOp1 opSortedR (cVar 2))))))
 (cRet (cC (.bool false)))
 cNx)
 (cRet (lkE (pkF 1 "lying") (cOp1 opAll (cLc [3] (ciKeyL (cItW "lying" (cVar 1))) (tgN 3) ctYes (cOp2 opEq (cMeth "Room" "where" f_Room__where (cVar 0) (lCons (cVar 3) lNil)) (cOp2 opItem (cItW "lying" (cVar 1)) (cVar 3)))))))))
def f__law_shown_right : Fn := runF 4 c__law_shown_right
def c__law_ball : CS :=
 (cSeq (cSet 2 (cCall f__law_draw (lCons (cVar 0) (lCons (cC (.int 6)) lNil))))
 (cSeq (cSet 3 (cCall f__law_draw (lCons (cVar 0) (lCons (cC (.int 12)) lNil))))
 (cSeq (cSet 4 (cOp1 opSorted (cOp1 opListK (cItW "lying" (cVar 1)))))
 (cSeq (cIfS (tAnd' (cB (cOp2 opLt (cVar 2) (cC (.int 3)))) (cB (cOp2 opNe (cVar 4) (cLst cNil))))
 (cRet (cOp2 opIx (cVar 4) (cCall f__law_draw (lCons (cVar 0) (lCons (cOp1 opLen (cVar 4)) lNil)))))
 cNx)
 (cSeq (cIfS (cB (cOp2 opEq (cVar 2) (cC (.int 3))))
 (cRet (cCall f__law_draw (lCons (cVar 0) (lCons (cOp2 opAdd (cItW "known" (cVar 1)) (cC (.int 2))) lNil))))
 cNx)
 (cRet (cOp2 opIx (cLst (cCons (cC .none) (cCons (cC (.bool true)) (cCons (cC (.bool false)) (cCons (cC (.str "0")) (cCons (cLst cNil) (cCons (cTup (cCons (cC (.int 0)) cNil)) (cCons cNewK (cCons (cOp1 opNeg (cC (.int 1))) (cCons (cOp2 opPow (cC (.int 10)) (cC (.int 11))) (cCons (cItW "known" (cVar 1)) (cCons (cLst (cCons (cC (.int 0)) cNil)) (cCons (cC (.str "")) cNil))))))))))))) (cVar 3))))))))
def f__law_ball : Fn := runF 5 c__law_ball
def c__law_deed_right : CS :=
 (cSeq (cSet 3 (cCall f__law_draw (lCons (cVar 0) (lCons (cC (.int 8)) lNil))))
 (cSeq (cSet 4 (cOp2 opAdd (cC (.int 1)) (cCall f__law_draw (lCons (cVar 0) (lCons (cC (.int 3)) lNil)))))
 (cSeq (cIfS (cB (cOp2 opLt (cVar 3) (cC (.int 4))))
 (cRet (cCall f__law_put_right (lCons (cVar 1) (lCons (cVar 2) (lCons (cOp1 opTuple (cLc [5] (ciR1 (cVar 4)) (tgN 5) ctYes (cCall f__law_draw (lCons (cVar 0) (lCons (cItW "boxes" (cVar 2)) lNil))))) lNil)))))
 cNx)
 (cSeq (cIfS (cB (cOp2 opLt (cVar 3) (cC (.int 6))))
 (cRet (cCall f__law_leave_right (lCons (cVar 1) (lCons (cVar 2) (lCons (cCall f__law_ball (lCons (cVar 0) (lCons (cVar 2) lNil))) lNil)))))
 cNx)
 (cRet (cCall f__law_back_right (lCons (cVar 1) (lCons (cVar 2) lNil))))))))
def f__law_deed_right : Fn := runF 6 c__law_deed_right
def c__law_full_right : CS :=
 (cSeq (cSetM 2 (cMkRoom (lCons (cVar 1) lNil)))
 (cSeq (cSetM 3 (cDispW ["boxes", "lying", "known", "past"] (nConsK (cVar 1) (nConsK cNewK (nConsK (cC (.int 0)) (nConsK (cLst cNil) nNil))))))
 (cSeq (cFor (ciR1 (cC (.int 61))) (tgN 4)
 (cIfS (tNot' (cTru (cCall f__law_put_right (lCons (cVar 2) (lCons (cVar 3) (lCons (cTup (cCons (cCall f__law_draw (lCons (cVar 0) (lCons (cVar 1) lNil))) (cCons (cCall f__law_draw (lCons (cVar 0) (lCons (cVar 1) lNil))) cNil))) lNil))))))
 (cRet (cC (.bool false)))
 cNx))
 (cSeq (cSet 5 (cCall f__law_draw (lCons (cVar 0) (lCons (cC (.int 60)) lNil))))
 (cSeq (cIfS (tOr' (tNot' (cTru (cCall f__law_leave_right (lCons (cVar 2) (lCons (cVar 3) (lCons (cVar 5) lNil)))))) (tNot' (cTru (cCall f__law_put_right (lCons (cVar 2) (lCons (cVar 3) (lCons (cTup (cCons (cC (.int 0)) cNil)) lNil)))))))
 (cRet (cC (.bool false)))
 cNx)
 (cSeq (cIfS (tOr' (tNot' (cTru (cCall f__law_put_right (lCons (cVar 2) (lCons (cVar 3) (lCons (cTup (cCons (cC (.int 0)) cNil)) lNil)))))) (tOr' (tNot' (cTru (cCall f__law_back_right (lCons (cVar 2) (lCons (cVar 3) lNil))))) (tNot' (cTru (cCall f__law_back_right (lCons (cVar 2) (lCons (cVar 3) lNil)))))))
 (cRet (cC (.bool false)))
 cNx)
 (cRet (cAnd (cCall f__law_shown_right (lCons (cVar 2) (lCons (cVar 3) lNil))) (cCall f__law_put_right (lCons (cVar 2) (lCons (cVar 3) (lCons (cTup (cCons (cC (.int 0)) cNil)) lNil))))))))))))
def f__law_full_right : Fn := runF 6 c__law_full_right
def c__law_long_right : CS :=
 (cSeq (cSetM 2 (cMkRoom (lCons (cVar 1) lNil)))
 (cSeq (cSetM 3 (cDispW ["boxes", "lying", "known", "past"] (nConsK (cVar 1) (nConsK cNewK (nConsK (cC (.int 0)) (nConsK (cLst cNil) nNil))))))
 (cSeq (cFor (ciR1 (cC (.int 100))) (tgN 4)
 (cSeq (cIfS (tNot' (cTru (cCall f__law_put_right (lCons (cVar 2) (lCons (cVar 3) (lCons (cTup (cCons (cCall f__law_draw (lCons (cVar 0) (lCons (cVar 1) lNil))) (cCons (cCall f__law_draw (lCons (cVar 0) (lCons (cVar 1) lNil))) cNil))) lNil))))))
 (cRet (cC (.bool false)))
 cNx)
 (cSeq (cSet 5 (cOp1 opSorted (cOp1 opListK (cItW "lying" (cVar 3)))))
 (cIfS (tAnd' (cB (cOp2 opGt (cOp1 opLen (cVar 5)) (cC (.int 9)))) (tNot' (cTru (cCall f__law_leave_right (lCons (cVar 2) (lCons (cVar 3) (lCons (cOp2 opIx (cVar 5) (cCall f__law_draw (lCons (cVar 0) (lCons (cOp1 opLen (cVar 5)) lNil)))) lNil)))))))
 (cRet (cC (.bool false)))
 cNx))))
 (cSeq (cWh (fun _ => 1000000) (cB (cOp2 opNe (cItW "past" (cVar 3)) (cLst cNil)))
 (cIfS (tNot' (cTru (cCall f__law_back_right (lCons (cVar 2) (lCons (cVar 3) lNil)))))
 (cRet (cC (.bool false)))
 cNx))
 (cSeq (cIfS (tOr' (tNot' (cTru (cCall f__law_shown_right (lCons (cVar 2) (lCons (cVar 3) lNil))))) (tNot' (cTru (cCall f__law_back_right (lCons (cVar 2) (lCons (cVar 3) lNil))))))
 (cRet (cC (.bool false)))
 cNx)
 (cRet (cCall f__law_put_right (lCons (cVar 2) (lCons (cVar 3) (lCons (cTup (cCons (cC (.int 0)) cNil)) lNil))))))))))
def f__law_long_right : Fn := runF 6 c__law_long_right
def c_law : CS :=
 (cSeq (cSetM 1 (cCallP f__law_pen (lCons (cVar 0) lNil)))
 (cSeq (cSet 2 (cCall f__law_draw (lCons (cVar 1) (lCons (cC (.int 12)) lNil))))
 (cSeq (cGrowP 3 5 (cC (.int 2)) (tgN 4) (cOp2 opAdd (cC (.int 1)) (cCall f__law_draw (lCons (cVar 1) (lCons (cC (.int 6)) lNil)))) (cTupN (nCons (cMkRoom (lCons (cVar 5) lNil)) (nCons (cDispW ["boxes", "lying", "known", "past"] (nConsK (cVar 5) (nConsK cNewK (nConsK (cC (.int 0)) (nConsK (cLst cNil) nNil))))) nNil))))
 (cSeq (cFor (ciR1 (cC (.int 30))) (tgN 4)
 (cSeq (cUnT 6 7 (cIxT (cVar 3) (cOp1 opInt (cOp2 opEq (cCall f__law_draw (lCons (cVar 1) (lCons (cC (.int 3)) lNil))) (cC (.int 0))))))
 (cSeq (cIfS (tNot' (cTru (cCall f__law_deed_right (lCons (cVar 1) (lCons (cVar 6) (lCons (cVar 7) lNil))))))
 (cRet (cC (.bool false)))
 cNx)
 (cIfS (tNot' (cTru (cOp1 opAll (cLcP [8, 9] (ciT (cVar 3)) 8 9 (cCall f__law_shown_right (lCons (cVar 8) (lCons (cVar 9) lNil)))))))
 (cRet (cC (.bool false)))
 cNx))))
 (cSeq (cFor (ciR1 (cOp2 opAdd (cOp1 opLen (cItW "past" (cIxT (cIxT (cVar 3) (cC (.int 0))) (cC (.int 1))))) (cC (.int 1)))) (tgN 4)
 (cIfS (tNot' (cTru (cCall f__law_back_right (lCons (cIxT (cIxT (cVar 3) (cC (.int 0))) (cC (.int 0))) (lCons (cIxT (cIxT (cVar 3) (cC (.int 0))) (cC (.int 1))) lNil)))))
 (cRet (cC (.bool false)))
 cNx))
 (cSeq (cIfS (tNot' (cTru (cCall f__law_put_right (lCons (cIxT (cIxT (cVar 3) (cC (.int 0))) (cC (.int 0))) (lCons (cIxT (cIxT (cVar 3) (cC (.int 0))) (cC (.int 1))) (lCons (cTup (cCons (cC (.int 0)) cNil)) lNil))))))
 (cRet (cC (.bool false)))
 cNx)
 (cSeq (cIfS (cB (cOp2 opEq (cVar 2) (cC (.int 0))))
 (cRet (cCall f__law_long_right (lCons (cVar 1) (lCons (cOp2 opAdd (cC (.int 1)) (cCall f__law_draw (lCons (cVar 1) (lCons (cC (.int 6)) lNil)))) lNil))))
 cNx)
 (cRet (cOr (cOp2 opGt (cVar 2) (cC (.int 2))) (cCall f__law_full_right (lCons (cVar 1) (lCons (cOp2 opAdd (cC (.int 1)) (cCall f__law_draw (lCons (cVar 1) (lCons (cC (.int 6)) lNil)))) lNil))))))))))))
def f_law : Fn := runF 10 c_law
end Vm
namespace Vm
open PySem L2
theorem draw_eq : f__law_draw = fDrawA := rfl
theorem pen_eq : f__law_pen = fPen := rfl
theorem load_eq : f_Room__load = fLoadR := rfl
theorem heard_eq : f__law_heard = fHeardA ["NoBack", "NoBall", "TooMany"] := rfl
/-! ### what is heard of a method -/
theorem heardA_dM {L : List String} {ask : List Cell → RF} {m m' : List Cell} {d : D} (h : ask m = .ok (.d d) m') (hl : m'.length = m.length) : fHeardA L ask m = .ok (.new (.l [d])) m' := by
  have q3 : cTry L 3 1 (cSet 2 (cAsk ask)) ⟨[Sl.f, .d .none, .d .none, .u, .u], m⟩ = .nx ⟨[Sl.f, .d .none, .d d, .u, .u], m'⟩ := cTry_nx (by simp [h, RF.toR])
  unfold fHeardA runH
  show fin m (cHeardA L ask ⟨[Sl.f, .u, .u, .u, .u], m⟩) = _
  have q4 : cIsN 1 ⟨[Sl.f, .d .none, .d d, .u, .u], m'⟩ = .ok (.d (.bool true)) ⟨[Sl.f, .d .none, .d d, .u, .u], m'⟩ := cIsN_d (d := .none) rfl
  have tk : m'.take m.length = m' := by rw [← hl, List.take_length]
  simp [cHeardA, q3, q4, tk]
def wordM (n : String) : Option Str := if n = "NoBall" then some "ball" else if n = "TooMany" then some "many" else if n = "NoBack" then some "back" else none
theorem tailM {w : Str} (n : String) (m : List Cell) (h : wordM n = some w) : fin m ((cSeq (cIfS (cB (cIsN 1))
 (cRet (cLst (cCons (cVar 2) cNil)))
 cNx)
 (cSeq (cSet 4 (cLst (cCons (cIsX 1 "NoShare") (cCons (cIsX 1 "NoBall") (cCons (cIsX 1 "Unlike") cNil)))))
 (cSeq (cSet 4 (cOp2 opAdd (cVar 4) (cLst (cCons (cIsX 1 "Fuller") (cCons (cIsX 1 "TooMany") (cCons (cIsX 1 "NoBack") cNil))))))
 (cSeq (cSet 4 (cOp2 opAdd (cVar 4) (cLst (cCons (cIsX 1 "NoName") (cCons (cIsX 1 "NoText") (cCons (cIsX 1 "NoRow") cNil))))))
 (cSeq (cIfS (tOr' (cB (cOp2 opNe (cMt1 "list" opCount (cVar 4) (cC (.bool true))) (cC (.int 1)))) (tNot' (cTru (cIsX 1 "ValueError"))))
 (cRet (cC (.str "odd")))
 cNx)
 (cRet (cOp2 opIx (cLst (cCons (cC (.str "share")) (cCons (cC (.str "ball")) (cCons (cC (.str "unlike")) (cCons (cC (.str "fuller")) (cCons (cC (.str "many")) (cCons (cC (.str "back")) (cCons (cC (.str "name")) (cCons (cC (.str "text")) (cCons (cC (.str "row")) cNil)))))))))) (cMt1 "list" opIndex (cVar 4) (cC (.bool true)))))))))) ⟨[Sl.f, .x n, .d .none, .u, .u], m⟩) = .ok (.d (.str w)) m := by
  have go : ∀ {x : Out} {d : D} {v : List Sl}, x = .rt (.d d) ⟨v, m⟩ → fin m x = .ok (.d d) m := fun e => by
    rw [e]
    simp
  unfold wordM at h
  split at h
  · rename_i e
    subst e
    cases h
    exact go (v := [Sl.f, .x "NoBall", .d .none, .u, .d (.list [.bool false, .bool true, .bool false, .bool false, .bool false, .bool false, .bool false, .bool false, .bool false])]) (by kernel_rfl)
  split at h
  · rename_i e
    subst e
    cases h
    exact go (v := [Sl.f, .x "TooMany", .d .none, .u, .d (.list [.bool false, .bool false, .bool false, .bool false, .bool true, .bool false, .bool false, .bool false, .bool false])]) (by kernel_rfl)
  split at h
  · rename_i e
    subst e
    cases h
    exact go (v := [Sl.f, .x "NoBack", .d .none, .u, .d (.list [.bool false, .bool false, .bool false, .bool false, .bool false, .bool true, .bool false, .bool false, .bool false])]) (by kernel_rfl)
  · cases h
theorem heardA_exM {L : List String} {ask : List Cell → RF} {m : List Cell} {n : String} {w : Str} (h : ask m = .ex n m) (hn : L.contains n = true) (hw : wordM n = some w) : fHeardA L ask m = .ok (.d (.str w)) m := by
  have q3 : cTry L 3 1 (cSet 2 (cAsk ask)) ⟨[Sl.f, .d .none, .d .none, .u, .u], m⟩ = .nx ⟨[Sl.f, .x n, .d .none, .u, .u], m⟩ := cTry_ex (s' := ⟨[Sl.f, .d .none, .d .none, .u, .u], m⟩) (by simp [h, RF.toR]) hn
  unfold fHeardA runH
  show fin m (cHeardA L ask ⟨[Sl.f, .u, .u, .u, .u], m⟩) = _
  unfold cHeardA
  have q1 : cSet 1 (cC .none) ⟨[Sl.f, .u, .u, .u, .u], m⟩ = .nx ⟨[Sl.f, .d .none, .u, .u, .u], m⟩ := by simp
  have q2 : cSet 2 (cC .none) ⟨[Sl.f, .d .none, .u, .u, .u], m⟩ = .nx ⟨[Sl.f, .d .none, .d .none, .u, .u], m⟩ := by simp
  rw [cSeq_s, q1, then_nx, cSeq_s, q2, then_nx, cSeq_s, q3, then_nx]
  exact tailM n m hw
theorem hear_ok {cb : CE} {v : List Sl} {m m' : List Cell} {d : D} (e : cb ⟨v, m⟩ = .ok (.d d) ⟨v, m'⟩) (hl : m'.length = m.length) : cHeard f__law_heard cb ⟨v, m⟩ = .ok (.new (.l [d])) ⟨v, m'⟩ := by
  rw [heard_eq]
  refine cHeard_s (heardA_dM ?_ hl)
  unfold askOf
  rw [e]
theorem hear_ex {cb : CE} {v : List Sl} {m : List Cell} {n : String} {w : Str} (e : cb ⟨v, m⟩ = .ex n ⟨v, m⟩) (hn : (["NoBack", "NoBall", "TooMany"] : List String).contains n = true) (hw : wordM n = some w) : cHeard f__law_heard cb ⟨v, m⟩ = .ok (.d (.str w)) ⟨v, m⟩ := by
  rw [heard_eq]
  refine cHeard_s (heardA_exM ?_ hn hw)
  unfold askOf
  rw [e]
/-! ### the law's own world: its dict at b, its list at b + 1, itself at b + 2 -/
def wF (n : Nat) (b p : Nat) (z : Int) : List (Str × El) := [("boxes", .d (.int n)), ("lying", .c b), ("known", .d (.int z)), ("past", .c p)]
def deedS (d : Deed) : D := .tuple [.str (if d.1 = true then "come" else "gone"), .int d.2.1, .int d.2.2]
theorem wF_boxes {n b p : Nat} {z : Int} : (wF n b p z).lookup ("boxes" : Str) = some (.d (.int n)) := rfl
theorem wF_lying {n b p : Nat} {z : Int} : (wF n b p z).lookup ("lying" : Str) = some (.c b) := rfl
theorem wF_known {n b p : Nat} {z : Int} : (wF n b p z).lookup ("known" : Str) = some (.d (.int z)) := rfl
theorem wF_past {n b p : Nat} {z : Int} : (wF n b p z).lookup ("past" : Str) = some (.c p) := rfl
structure InW (m : List Cell) (b n : Nat) (z : Int) (ly : List (Int × Int)) (ps : List Deed) : Prop where
  o : m[b + 2]? = some (.g (.w (wF n b (b + 1) z)))
  l : m[b]? = some (.k (lyK ly))
  p : m[b + 1]? = some (.l (ps.map deedS))
variable {m : List Cell} {a b n : Nat} {z : Int} {ly : List (Int × Int)} {ps : List Deed}
theorem InW.lt (h : InW m b n z ly ps) : b + 2 < m.length := (List.getElem?_eq_some_iff.mp h.o).1
theorem InW.setL (h : InW m b n z ly ps) (ly' : List (Int × Int)) : InW (m.set b (.k (lyK ly'))) b n z ly' ps :=
  ⟨set_ne' h.o (by omega), List.getElem?_set_self (by have := h.lt; omega), set_ne' h.p (by omega)⟩
theorem InW.setP (h : InW m b n z ly ps) (ps' : List Deed) : InW (m.set (b + 1) (.l (ps'.map deedS))) b n z ly ps' :=
  ⟨set_ne' h.o (by omega), set_ne' h.l (by omega), List.getElem?_set_self (by have := h.lt; omega)⟩
theorem InW.setZ (h : InW m b n z ly ps) (z' : Int) : InW (m.set (b + 2) (.g (.w (wF n b (b + 1) z')))) b n z' ly ps :=
  ⟨List.getElem?_set_self (by have := h.lt; omega), set_ne' h.l (by omega), set_ne' h.p (by omega)⟩
theorem InW.off {m' : List Cell} {c : Nat} (h : InW m b n z ly ps) (o : Off3 c m m') (hab : c + 3 ≤ b ∨ b + 3 ≤ c) : InW m' b n z ly ps :=
  ⟨(o.at' _ (by omega) (by omega) (by omega)).trans h.o, (o.at' _ (by omega) (by omega) (by omega)).trans h.l, (o.at' _ (by omega) (by omega) (by omega)).trans h.p⟩
theorem InW.app (h : InW m b n z ly ps) (x : List Cell) : InW (m ++ x) b n z ly ps := by
  have := h.lt
  exact ⟨by rw [List.getElem?_append_left (by omega)]; exact h.o, by rw [List.getElem?_append_left (by omega)]; exact h.l, by rw [List.getElem?_append_left (by omega)]; exact h.p⟩
theorem w_boxes {i : Nat} (h : InW m b n z ly ps) {v : List Sl} (hv : v[i]? = some (.c (b + 2))) : cItW "boxes" (cVar i) ⟨v, m⟩ = .ok (.d (.int n)) ⟨v, m⟩ :=
  cItW_ok (n := b + 2) (by rw [cVar_r, hv]; rfl) h.o wF_boxes
theorem w_lying {i : Nat} (h : InW m b n z ly ps) {v : List Sl} (hv : v[i]? = some (.c (b + 2))) : cItW "lying" (cVar i) ⟨v, m⟩ = .ok (.ref b) ⟨v, m⟩ :=
  cItW_ok (n := b + 2) (by rw [cVar_r, hv]; rfl) h.o wF_lying
theorem w_known {i : Nat} (h : InW m b n z ly ps) {v : List Sl} (hv : v[i]? = some (.c (b + 2))) : cItW "known" (cVar i) ⟨v, m⟩ = .ok (.d (.int z)) ⟨v, m⟩ :=
  cItW_ok (n := b + 2) (by rw [cVar_r, hv]; rfl) h.o wF_known
theorem w_past {i : Nat} (h : InW m b n z ly ps) {v : List Sl} (hv : v[i]? = some (.c (b + 2))) : cItW "past" (cVar i) ⟨v, m⟩ = .ok (.ref (b + 1)) ⟨v, m⟩ :=
  cItW_ok (n := b + 2) (by rw [cVar_r, hv]; rfl) h.o wF_past
theorem wF_put {p : Nat} {y : Int} : putEl "known" (.d (.int y)) (wF n b p z) = wF n b p y := by
  have h1 : ¬ (("boxes" : Str) = "known") := by decide +kernel
  have h2 : ¬ (("lying" : Str) = "known") := by decide +kernel
  simp [putEl, wF, h1, h2]
theorem wF_nd {p : Nat} : ((wF n b p z).map (·.1)).Nodup ∧ (wF n b p z).length < 1000 := by
  refine ⟨?_, by show 4 < 1000; decide⟩
  show (["boxes", "lying", "known", "past"] : List Str).Nodup
  decide +kernel
/-! ### how many balls each box holds -/
def cCtB : CS := (cPutL (cVar 1) (cOp2 opItem (cItW "lying" (cVar 0)) (cVar 2)) (cOp2 opAdd (cOp2 opIx (cVar 1) (cOp2 opItem (cItW "lying" (cVar 0)) (cVar 2))) (cC (.int 1))))
theorem ctB_ok {L : Nat} {cs : List Int} {p : Int × Int} (hL : m[L]? = some (.l (cs.map PyData.int))) (ho : m[b + 2]? = some (.g (.w (wF n b (b + 1) z)))) (hl : m[b]? = some (.g (.kl (lyK ly)))) (hp : lyG ly p.1 = some p.2) (h0 : 0 ≤ p.2) (h1 : p.2 < cs.length) :
    cCtB ⟨[.c (b + 2), .c L, .d (.int p.1)], m⟩ = .nx ⟨[.c (b + 2), .c L, .d (.int p.1)], m.set L (.l ((cs.set p.2.toNat (cs.getD p.2.toNat 0 + 1)).map PyData.int))⟩ := by
  have hf : cItW "lying" (cVar 0) ⟨[.c (b + 2), .c L, .d (.int p.1)], m⟩ = .ok (.ref b) ⟨[.c (b + 2), .c L, .d (.int p.1)], m⟩ := cItW_ok (n := b + 2) rfl ho wF_lying
  have it : opItem (.c (.g (.kl (lyK ly)))) (.d (.int p.1)) = some (.d (.int p.2)) := it_kl (by rw [lyK_get, hp]; rfl)
  have ab := at_box h0 h1
  have pu := putLR_s (n := L) (k := p.2) (v := .int (cs.getD p.2.toNat 0 + 1)) (s3 := ⟨[.c (b + 2), .c L, .d (.int p.1)], m⟩) hL h0 (by rw [List.length_map]; exact h1)
  have es : (cs.map PyData.int).set p.2.toNat (.int (cs.getD p.2.toNat 0 + 1)) = (cs.set p.2.toNat (cs.getD p.2.toNat 0 + 1)).map PyData.int := by rw [List.map_set]
  rw [es] at pu
  simp [-List.getD_eq_getElem?_getD, cCtB, hf, hl, hL, it, ab, pu]
theorem counts_ok (h : InW m b n z ly ps) (k : RmOk ⟨n, ly, z, ps⟩) : f__law_counts [.c (b + 2)] m = .ok (.new (.l ((stL n ly).map PyData.int))) m := by
  have hlt := h.lt
  have n6 : n ≤ 6 := k.n6
  have ze : opMulV (.d (.list [.int 0])) (.d (.int n)) = some (.new (.l ((stL n []).map PyData.int))) := by
    have : n = 0 ∨ n = 1 ∨ n = 2 ∨ n = 3 ∨ n = 4 ∨ n = 5 ∨ n = 6 := by omega
    rcases this with rfl | rfl | rfl | rfl | rfl | rfl | rfl <;> rfl
  have A := h.app [Cell.l ((stL n []).map PyData.int)]
  let M : List Int → List Cell := fun cs => (m.set b (.g (.kl (lyK ly)))) ++ [Cell.l (cs.map PyData.int)]
  have eM : ∀ cs : List Int, (m ++ [Cell.l (cs.map PyData.int)]).set b (.g (.kl (lyK ly))) = M cs := fun cs => List.set_append_left _ _ (by omega)
  have Mo : ∀ cs, (M cs)[b + 2]? = some (.g (.w (wF n b (b + 1) z))) := fun cs => by
    show ((m.set b (.g (.kl (lyK ly)))) ++ [Cell.l (cs.map PyData.int)])[b + 2]? = _
    rw [List.getElem?_append_left (by rw [List.length_set]; omega)]
    exact set_ne' h.o (by omega)
  have Ml : ∀ cs, (M cs)[b]? = some (.g (.kl (lyK ly))) := fun cs => by
    show ((m.set b (.g (.kl (lyK ly)))) ++ [Cell.l (cs.map PyData.int)])[b]? = _
    rw [List.getElem?_append_left (by rw [List.length_set]; omega)]
    exact List.getElem?_set_self (by omega)
  have ML : ∀ cs, (M cs)[m.length]? = some (.l (cs.map PyData.int)) := fun cs => by
    show ((m.set b (.g (.kl (lyK ly)))) ++ [Cell.l (cs.map PyData.int)])[m.length]? = _
    rw [List.getElem?_append_right (by rw [List.length_set]; exact Nat.le_refl _), List.length_set, Nat.sub_self]
    rfl
  have MS : ∀ cs cs', (M cs).set m.length (.l (cs'.map PyData.int)) = M cs' := fun cs cs' => by
    show ((m.set b (.g (.kl (lyK ly)))) ++ [Cell.l (cs.map PyData.int)]).set m.length _ = _
    rw [List.set_append_right _ _ (by rw [List.length_set]; exact Nat.le_refl _), List.length_set, Nat.sub_self]
    rfl
  obtain ⟨s', e, v2, rfl⟩ := forL_inv (tg := tgN 2) (body := cCtB) (ds := (lyK ly).map fun p => kD p.1) (fun i s => ∃ v2 : Sl, s = ⟨[.c (b + 2), .c m.length, v2], M (stL n (ly.take i))⟩)
    (s := ⟨[.c (b + 2), .c m.length, .u], M (stL n [])⟩) ⟨_, rfl⟩ fun i s d hd hi => by
      obtain ⟨v2, rfl⟩ := hi
      rw [List.getElem?_map] at hd
      obtain ⟨e, he, rfl⟩ := Option.map_eq_some_iff.mp hd
      unfold lyK at he
      rw [List.getElem?_map] at he
      obtain ⟨p, hp, rfl⟩ := Option.map_eq_some_iff.mp he
      have bx := k.box p (List.mem_of_getElem? hp)
      have t := ctB_ok (L := m.length) (m := M (stL n (ly.take i))) (cs := stL n (ly.take i)) (p := p) (ML _) (Mo _) (Ml _) (lyG_at k.nd hp) bx.1 (by rw [stL_len]; exact bx.2)
      rw [MS, ← stL_step bx.1 bx.2] at t
      have e3 : ly.take i ++ [p] = ly.take (i + 1) := by
        rw [List.take_add_one, hp]
        rfl
      rw [e3] at t
      exact ⟨_, _, rfl, .inl t, _, rfl⟩
  rw [List.length_map, show (lyK ly).length = ly.length from List.length_map .., List.take_length] at e
  have lk : lkS (pkF 0 "lying") (cFor (ciKeyL (cItW "lying" (cVar 0))) (tgN 2) cCtB) ⟨[.c (b + 2), .c m.length, .u], m ++ [Cell.l ((stL n []).map PyData.int)]⟩ = .nx ⟨[.c (b + 2), .c m.length, v2], m ++ [Cell.l ((stL n ly).map PyData.int)]⟩ := by
    have pk : pkF 0 "lying" ⟨[.c (b + 2), .c m.length, .u], m ++ [Cell.l ((stL n []).map PyData.int)]⟩ = some b := by
      unfold pkF
      show (match (m ++ [Cell.l ((stL n []).map PyData.int)])[b + 2]? with
        | some (.g (.o _ fs)) => (match fs.lookup ("lying" : Str) with
          | some (.c k) => some k
          | _ => none)
        | some (.g (.w fs)) => (match fs.lookup ("lying" : Str) with
          | some (.c k) => some k
          | _ => none)
        | _ => none) = some b
      rw [A.o]
      rfl
    have hf : cItW "lying" (cVar 0) ⟨[.c (b + 2), .c m.length, .u], M (stL n [])⟩ = .ok (.ref b) ⟨[.c (b + 2), .c m.length, .u], M (stL n [])⟩ := cItW_ok (n := b + 2) rfl (Mo _) wF_lying
    have ck : ciKeyL (cItW "lying" (cVar 0)) ⟨[.c (b + 2), .c m.length, .u], M (stL n [])⟩ = .ok ((lyK ly).map fun p => kD p.1) ⟨[.c (b + 2), .c m.length, .u], M (stL n [])⟩ := ciKeyL_ok hf (Ml _)
    have eqM : (M (stL n ly)).set b (.k (lyK ly)) = m ++ [Cell.l ((stL n ly).map PyData.int)] := by
      show ((m.set b (.g (.kl (lyK ly)))) ++ [Cell.l ((stL n ly).map PyData.int)]).set b (.k (lyK ly)) = _
      rw [List.set_append_left _ _ (by rw [List.length_set]; omega), List.set_set, set_same h.l]
    unfold lkS
    rw [pk]
    dsimp only
    rw [A.l]
    dsimp only
    rw [eM, cFor_s, ck, out_ok, e]
    dsimp only
    rw [Ml]
    dsimp only
    rw [eqM]
  have hc : c__law_counts = (cSeq (cSetM 1 (cOp2 opMulV (cLst (cCons (cC (.int 0)) cNil)) (cItW "boxes" (cVar 0)))) (cSeq (lkS (pkF 0 "lying") (cFor (ciKeyL (cItW "lying" (cVar 0))) (tgN 2) cCtB)) (cRet (cVar 1)))) := rfl
  have hb := w_boxes h (i := 0) (v := [.c (b + 2), .u, .u]) rfl
  have fr : fin m (.rt (.ref m.length) ⟨[.c (b + 2), .c m.length, v2], m ++ [Cell.l ((stL n ly).map PyData.int)]⟩) = .ok (.new (.l ((stL n ly).map PyData.int))) m := by
    have g : (m ++ [Cell.l ((stL n ly).map PyData.int)])[m.length]? = some (.l ((stL n ly).map PyData.int)) := by simp
    show (if m.length ≤ m.length then (match (m ++ [Cell.l ((stL n ly).map PyData.int)])[m.length]? with
      | some .gone => RF.bad
      | some c => .ok (.new c) ((m ++ [Cell.l ((stL n ly).map PyData.int)]).take m.length)
      | none => .bad) else .bad) = _
    rw [if_pos (Nat.le_refl _), g]
    simp
  unfold f__law_counts
  rw [runF_s, hc]
  simp [hb, ze, lk, fr]
end Vm
namespace Vm
open PySem L2
/-! ### a room and the law's own world beside it -/
structure PW (m : List Cell) (a b n : Nat) (z : Int) (ly : List (Int × Int)) (ps : List Deed) : Prop where
  r : InRm m a ⟨n, ly, z, ps⟩
  w : InW m b n z ly ps
  h : Hs n z ps ly
  n0 : 1 ≤ n
  n6 : n ≤ 6
  z0 : 0 ≤ z
  few : ps.length < 80000
  ab : a + 3 ≤ b ∨ b + 3 ≤ a
structure Off6 (a b : Nat) (m m' : List Cell) : Prop where
  len : m'.length = m.length
  at' : ∀ i, (i < a ∨ a + 3 ≤ i) → (i < b ∨ b + 3 ≤ i) → m'[i]? = m[i]?
variable {m : List Cell} {a b n : Nat} {z : Int} {ly : List (Int × Int)} {ps : List Deed}
theorem Off6.refl : Off6 a b m m := ⟨rfl, fun _ _ _ => rfl⟩
theorem Off6.trans {m1 m2 : List Cell} (h : Off6 a b m m1) (h2 : Off6 a b m1 m2) : Off6 a b m m2 := ⟨h2.len.trans h.len, fun i h3 h4 => (h2.at' i h3 h4).trans (h.at' i h3 h4)⟩
theorem Off6.r {m' : List Cell} (h : Off3 a m m') : Off6 a b m m' := ⟨h.len, fun i h1 _ => h.at' i (by omega) (by omega) (by omega)⟩
theorem Off6.w {m' : List Cell} (h : Off3 b m m') : Off6 a b m m' := ⟨h.len, fun i _ h1 => h.at' i (by omega) (by omega) (by omega)⟩
theorem PW.ok (h : PW m a b n z ly ps) : RmOk ⟨n, ly, z, ps⟩ := rmOk_of h.h h.n0 h.n6
theorem PW.off {m' : List Cell} {c d : Nat} (h : PW m a b n z ly ps) (o : Off6 c d m m') (h1 : a + 3 ≤ c ∨ c + 3 ≤ a) (h2 : a + 3 ≤ d ∨ d + 3 ≤ a) (h3 : b + 3 ≤ c ∨ c + 3 ≤ b) (h4 : b + 3 ≤ d ∨ d + 3 ≤ b) : PW m' a b n z ly ps :=
  ⟨⟨(o.at' _ (by omega) (by omega)).trans h.r.o, (o.at' _ (by omega) (by omega)).trans h.r.l, (o.at' _ (by omega) (by omega)).trans h.r.p⟩, ⟨(o.at' _ (by omega) (by omega)).trans h.w.o, (o.at' _ (by omega) (by omega)).trans h.w.l, (o.at' _ (by omega) (by omega)).trans h.w.p⟩, h.h, h.n0, h.n6, h.z0, h.few, h.ab⟩
theorem PW.meth {i : Nat} {m' : List Cell} {f : Fn} {mt : Str} {cl : CL} {as : List Sl} {y : Rv} (h : PW m a b n z ly ps) {v : List Sl} (hv : v[i]? = some (.c (a + 2))) (hl : ∀ (x : D) (k q : Nat) (z : Int), ((roomF x k q z).lookup mt).isNone = true) (ha : cl ⟨v, m⟩ = .ok as ⟨v, m⟩) (e : f (.c (a + 2) :: as) m = .ok y m') :
    cMeth "Room" mt f (cVar i) cl ⟨v, m⟩ = .ok y ⟨v, m'⟩ := meth_rm h.r hv (hl _ _ _ _) ha e
theorem PW.methX {i : Nat} {f : Fn} {mt : Str} {cl : CL} {as : List Sl} {x : String} (h : PW m a b n z ly ps) {v : List Sl} (hv : v[i]? = some (.c (a + 2))) (hl : ∀ (x : D) (k q : Nat) (z : Int), ((roomF x k q z).lookup mt).isNone = true) (ha : cl ⟨v, m⟩ = .ok as ⟨v, m⟩) (e : f (.c (a + 2) :: as) m = .ex x m) :
    cMeth "Room" mt f (cVar i) cl ⟨v, m⟩ = .ex x ⟨v, m⟩ := meth_rmX h.r hv (hl _ _ _ _) ha e
theorem deedS_app (ps : List Deed) (d : Deed) : ps.map deedS ++ [deedS d] = (ps ++ [d]).map deedS := by rw [List.map_append]; rfl
theorem okd_deedsS (ps : List Deed) : okd (.list (ps.map deedS)) = true := (okd_seq fun d hd => by
  obtain ⟨p, _, rfl⟩ := List.mem_map.mp hd
  obtain ⟨c, b, x⟩ := p
  refine ⟨rfl, ?_⟩
  show PyData.depth (.tuple [.str _, .int b, .int x]) ≤ 59
  simp [PyData.depth, PyData.depthAll]).1
/-! ### back -/
theorem fPop_deedS {ps : List Deed} {d : Deed} : fPop ((ps ++ [d]).map deedS) [] = some (deedS d, ps.map deedS) := by
  unfold fPop
  rw [List.map_append]
  simp
theorem back_right_no (h : PW m a b n z ly []) : f__law_back_right [.c (a + 2), .c (b + 2)] m = .ok (.d (.bool true)) m := by
  have hk := hear_ex (w := "back") (h.methX (i := 0) (v := [.c (a + 2), .c (b + 2), .u, .u, .u, .u]) (cl := lNil) (as := []) rfl (fun _ _ _ _ => lookR_back) (by simp) (Vm.back_no h.r rfl)) (by decide) rfl
  have hp := w_past h.w (i := 1) (v := [.c (a + 2), .c (b + 2), .d (.str "back"), .u, .u, .u]) rfl
  have hP : m[b + 1]? = some (.l []) := h.w.p
  have e1 : opEq (.d (.list [])) (.d (.list [])) = some (.d (.bool true)) := rfl
  have e2 : opEq (.d (.str "back")) (.d (.str "back")) = some (.d (.bool true)) := by rfl
  unfold f__law_back_right
  rw [runF_s]
  simp [c__law_back_right, hk, hp, hP, e1, e2]
theorem offW2 {c c' : Cell} : Off3 b m ((m.set (b + 1) c).set b c') := offB
theorem back_right_ok {d : Deed} (h : PW m a b n z ly (ps ++ [d])) :
    ∃ m' ly', f__law_back_right [.c (a + 2), .c (b + 2)] m = .ok (.d (.bool true)) m' ∧ Off6 a b m m' ∧ PW m' a b n z ly' ps := by
  have ab := h.ab
  have hfew : ps.length < 80000 := by have := h.few; rw [List.length_append] at this; omega
  have step : ∀ (c : Bool) (bl x : Int) (ly' : List (Int × Int)), d = (c, bl, x) → (∃ m', fBackR [.c (a + 2)] m = .ok (.d (.int bl)) m' ∧ Off3 a m m' ∧ InRm m' a ⟨n, ly', z, ps⟩) → Hs n z ps ly' →
      (∀ m1, InW m1 b n z ly ps → (cIfS (cB (cOp2 opEq (cVar 3) (cC (.str "come")))) (cExp (cDPop (cItW "lying" (cVar 1)) (cVar 4))) (cPut (cItW "lying" (cVar 1)) (cVar 4) (cVar 5))) ⟨[.c (a + 2), .c (b + 2), .d (.list [.int bl]), .d (.str (if c = true then "come" else "gone")), .d (.int bl), .d (.int x)], m1⟩ = .nx ⟨[.c (a + 2), .c (b + 2), .d (.list [.int bl]), .d (.str (if c = true then "come" else "gone")), .d (.int bl), .d (.int x)], m1.set b (.k (lyK ly'))⟩) →
      ∃ m' ly', f__law_back_right [.c (a + 2), .c (b + 2)] m = .ok (.d (.bool true)) m' ∧ Off6 a b m m' ∧ PW m' a b n z ly' ps := by
    rintro c bl x ly' rfl ⟨m1, e1, o1, r1⟩ hs hif
    have w1 := h.w.off o1 ab
    have w2 := w1.setP ps
    have w3 := w2.setL ly'
    have r3 : InRm (((m1.set (b + 1) (.l (ps.map deedS))).set b (.k (lyK ly')))) a ⟨n, ly', z, ps⟩ := r1.off offW2 ab
    refine ⟨_, ly', ?_, (Off6.r o1).trans (Off6.w offW2), ⟨r3, w3, hs, h.n0, h.n6, h.z0, hfew, ab⟩⟩
    have hk := hear_ok (h.meth (i := 0) (v := [.c (a + 2), .c (b + 2), .u, .u, .u, .u]) (cl := lNil) (as := []) rfl (fun _ _ _ _ => lookR_back) (by simp) e1) o1.len
    have hp := w_past w1 (i := 1) (v := [.c (a + 2), .c (b + 2), .d (.list [.int bl]), .u, .u, .u]) rfl
    have hP := w1.p
    have eq := opEq_nilJ (okd_deedsS (ps ++ [(c, bl, x)]))
    have ne : ((ps ++ [(c, bl, x)]).map deedS).isEmpty = false := by simp
    rw [ne] at eq
    have pq := fPop_deedS (ps := ps) (d := (c, bl, x))
    have i3 := hif _ w2
    have e2 : opEq (.d (.list [.int bl])) (.d (.list [.int bl])) = some (.d (.bool true)) := by
      have := opEq_intsL (as := [bl]) (bs := [bl])
      rw [decide_eq_true rfl] at this
      exact this
    have tk : (((m1.set (b + 1) (.l (ps.map deedS))).set b (.k (lyK ly')))).take m.length = ((m1.set (b + 1) (.l (ps.map deedS))).set b (.k (lyK ly'))) := by
      rw [← o1.len]
      exact take_off offW2
    have dS : deedS (c, bl, x) = .tuple [.str (if c = true then "come" else "gone"), .int bl, .int x] := rfl
    rw [dS] at pq
    unfold f__law_back_right
    rw [runF_s]
    generalize ((ps ++ [(c, bl, x)]).map deedS) = PP at *
    generalize (if c = true then ("come" : Str) else "gone") = ww at *
    have hc : c__law_back_right = (cSeq (cSet 2 (cHeard f__law_heard (cMeth "Room" "back" f_Room__back (cVar 0) lNil))) (cSeq (cIfS (cB (cOp2 opEq (cItW "past" (cVar 1)) (cLst cNil))) (cRet (cOp2 opEq (cVar 2) (cC (.str "back")))) cNx) (cSeq (cAsg (tgTup 3 (tgCons (tgN 3) (tgCons (tgN 4) (tgCons (tgN 5) tgNil)))) (cMut fPop (cItW "past" (cVar 1)) cNil)) (cSeq (cIfS (cB (cOp2 opEq (cVar 3) (cC (.str "come")))) (cExp (cDPop (cItW "lying" (cVar 1)) (cVar 4))) (cPut (cItW "lying" (cVar 1)) (cVar 4) (cVar 5))) (cRet (cOp2 opEq (cVar 2) (cLst (cCons (cVar 4) cNil)))))))) := rfl
    rw [hc]
    generalize (cIfS (cB (cOp2 opEq (cVar 3) (cC (.str "come")))) (cExp (cDPop (cItW "lying" (cVar 1)) (cVar 4))) (cPut (cItW "lying" (cVar 1)) (cVar 4) (cVar 5))) = CI at *
    simp [hk, hp, hP, eq, pq, asg_3, i3, e2, tk]
  obtain ⟨c, bl, x⟩ := d
  cases c with
  | true =>
    obtain ⟨g1, g2⟩ := h.h.back_come
    obtain ⟨m1, e1, o1, r1⟩ := Vm.back_come h.r (ps := ps) rfl g1
    refine step true bl x (lyX ly bl) rfl ⟨m1, e1, o1, r1⟩ g2 fun m2 w2 => ?_
    have pp := dpop_ok (co := cItW "lying" (cVar 1)) (ck := cVar 4) (s := ⟨[.c (a + 2), .c (b + 2), .d (.list [.int bl]), .d (.str "come"), .d (.int bl), .d (.int x)], m2⟩) (s1 := ⟨[.c (a + 2), .c (b + 2), .d (.list [.int bl]), .d (.str "come"), .d (.int bl), .d (.int x)], m2⟩) (s2 := ⟨[.c (a + 2), .c (b + 2), .d (.list [.int bl]), .d (.str "come"), .d (.int bl), .d (.int x)], m2⟩) (n := b) (w_lying w2 rfl) (by simp) w2.l w2.l g1
    have e : opEq (.d (.str "come")) (.d (.str "come")) = some (.d (.bool true)) := by rfl
    simp [pp, e]
  | false =>
    obtain ⟨g1, g2⟩ := h.h.back_gone
    obtain ⟨m1, e1, o1, r1⟩ := Vm.back_gone h.r (ps := ps) rfl g1 (by show ly.length < _; have := h.h.few; omega)
    refine step false bl x (ly ++ [(bl, x)]) rfl ⟨m1, e1, o1, r1⟩ g2 fun m2 w2 => ?_
    have hf := w_lying w2 (i := 1) (v := [.c (a + 2), .c (b + 2), .d (.list [.int bl]), .d (.str "gone"), .d (.int bl), .d (.int x)]) rfl
    have pi := putIn_k (x := x) g1 (by have := h.h.few; omega)
    have pR := putR_s (n := b) (k := .int bl) (v := .int x) (s3 := ⟨[.c (a + 2), .c (b + 2), .d (.list [.int bl]), .d (.str "gone"), .d (.int bl), .d (.int x)], m2⟩) w2.l
    have e : opEq (.d (.str "gone")) (.d (.str "come")) = some (.d (.bool false)) := by rfl
    simp [hf, pi, pR, e]
end Vm
namespace Vm
open PySem L2
variable {m : List Cell} {a b n : Nat} {z : Int} {ly : List (Int × Int)} {ps : List Deed}
theorem find_firstK {bs : List Int} {p : Int → Bool} : ∀ {j : Nat} (hj : j < bs.length), p bs[j] = true → (∀ i (hi : i < j), p (bs[i]'(by omega)) = false) → ∃ r, bs.filter p = bs[j] :: r := by
  induction bs with
  | nil => intro j hj; exact absurd hj (by simp)
  | cons b bs ih =>
    intro j hj h1 h2
    cases j with
    | zero => exact ⟨_, List.filter_cons_of_pos h1⟩
    | succ j =>
      have hb : p b = false := h2 0 (by omega)
      rw [List.filter_cons_of_neg (by rw [hb]; decide)]
      exact ih (by simpa using hj) (by simpa using h1) fun i hi => by simpa using h2 (i + 1) (by omega)
def cLeast : CE := (cOp1 opMin (cLc [5] (ciSeq (cVar 2)) (tgN 5) ctYes (cOp2 opIx (cVar 3) (cVar 5))))
def cFirstB : CE := (cOp2 opIx (cLc [8] (ciSeq (cVar 2)) (tgN 8) (cB (cOp2 opEq (cOp2 opIx (cVar 3) (cVar 8)) (cVar 4))) (cVar 8)) (cC (.int 0)))
theorem least_ok {ns bs : List Int} (h : DrawOk ns.length bs) (v0 v1 v4 v5 v6 v7 v8 : Sl) (m : List Cell) : ∃ y, cLeast ⟨[v0, v1, .d (tupD bs), .d (.list (ns.map PyData.int)), v4, v5, v6, v7, v8], m⟩ = .ok (.d y) ⟨[v0, v1, .d (tupD bs), .d (.list (ns.map PyData.int)), v4, v5, v6, v7, v8], m⟩ ∧
    cFirstB ⟨[v0, v1, .d (tupD bs), .d (.list (ns.map PyData.int)), .d y, v5, v6, v7, v8], m⟩ = .ok (.d (.int (chF ns bs))) ⟨[v0, v1, .d (tupD bs), .d (.list (ns.map PyData.int)), .d y, v5, v6, v7, v8], m⟩ := by
  obtain ⟨mn, j, h1, h2, h3, h4⟩ := index_min (vals_ne (ns := ns) h)
  have hvl : (vals ns bs).length = bs.length := List.length_map ..
  have hj : j < bs.length := by have := h3.lt; omega
  have hf := (fmI_ok (vals_ne h)).one h3
  have hc : chF ns bs = bs[j] := by
    unfold chF
    rw [hf, List.getD_eq_getElem?_getD, List.getElem?_eq_getElem hj]
    rfl
  have hm : ns.getD bs[j].toNat 0 = mn := by
    rw [← vals_at hj]
    exact (List.getElem?_eq_some_iff.mp h4).2
  have l1 := lc_all (own := [5]) (ci := ciSeq (cVar 2)) (tg := tgN 5) (el := cOp2 opIx (cVar 3) (cVar 5)) (s := ⟨[v0, v1, .d (tupD bs), .d (.list (ns.map PyData.int)), v4, v5, v6, v7, v8], m⟩) (s1 := ⟨[v0, v1, .d (tupD bs), .d (.list (ns.map PyData.int)), v4, v5, v6, v7, v8], m⟩) (ds := bs.map PyData.int)
    (g := fun d => match d with | .int b => .int (ns.getD b.toNat 0) | d => d) (by simp [tupD]) (by rw [List.length_map]; have := h.len; omega) fun d hd => by
      obtain ⟨b, hb, rfl⟩ := List.mem_map.mp hd
      have r := h.rng b hb
      have o := at_box r.1 r.2
      refine ⟨_, rfl, [v0, v1, .d (tupD bs), .d (.list (ns.map PyData.int)), v4, .d (.int b), v6, v7, v8], ?_⟩
      simp [-List.getD_eq_getElem?_getD, wipeV, o]
  rw [List.map_map, show ((fun d : D => match d with | .int b => .int (ns.getD b.toNat 0) | d => d) ∘ PyData.int) = PyData.int ∘ (fun b => ns.getD b.toNat 0) from rfl, ← List.map_map, show bs.map (fun b => ns.getD b.toNat 0) = vals ns bs from rfl] at l1
  have l2 := lc_map (own := [8]) (ci := ciSeq (cVar 2)) (tg := tgN 8) (tt := cB (cOp2 opEq (cOp2 opIx (cVar 3) (cVar 8)) (cVar 4))) (el := cVar 8) (s := ⟨[v0, v1, .d (tupD bs), .d (.list (ns.map PyData.int)), .d (.int mn), v5, v6, v7, v8], m⟩) (s1 := ⟨[v0, v1, .d (tupD bs), .d (.list (ns.map PyData.int)), .d (.int mn), v5, v6, v7, v8], m⟩) (ds := bs.map PyData.int)
    (fun d => match d with | .int b => decide (ns.getD b.toNat 0 = mn) | _ => false) (fun d => d) (by simp [tupD]) (by rw [List.length_map]; have := h.len; omega) fun d hd => by
      obtain ⟨b, hb, rfl⟩ := List.mem_map.mp hd
      have r := h.rng b hb
      have o := at_box r.1 r.2
      refine ⟨_, rfl, ⟨[v0, v1, .d (tupD bs), .d (.list (ns.map PyData.int)), .d (.int mn), v5, v6, v7, .d (.int b)], m⟩, ?_, fun _ => rfl, fun _ => ⟨[v0, v1, .d (tupD bs), .d (.list (ns.map PyData.int)), .d (.int mn), v5, v6, v7, .d (.int b)], ?_⟩⟩
      · simp [-List.getD_eq_getElem?_getD, wipeV, o]
      · simp
  rw [List.map_id', List.filter_map, show ((fun d : D => match d with | .int b => decide (ns.getD b.toNat 0 = mn) | _ => false) ∘ PyData.int) = (fun b => decide (ns.getD b.toNat 0 = mn)) from rfl] at l2
  obtain ⟨r, hr⟩ := find_firstK (bs := bs) (p := fun b => decide (ns.getD b.toNat 0 = mn)) hj (by simp only [hm]; simp) (fun i hi => by
    have := h3.fst i _ hi (List.getElem?_eq_getElem (by omega))
    rw [h4, vals_at (by omega)] at this
    have : mn < ns.getD (bs[i]'(by omega)).toNat 0 := this
    simp only [decide_eq_false_iff_not]
    omega)
  rw [hr, ← hc, List.map_cons] at l2
  have ix : opIx (.d (.list (.int (chF ns bs) :: r.map PyData.int))) (.d (.int 0)) = some (.d (.int (chF ns bs))) := opIx_l (atI_nat (by decide) rfl)
  refine ⟨.int mn, ?_, ?_⟩
  · unfold cLeast
    simp [l1, h1]
  · unfold cFirstB
    simp [l2, ix]
/-! ### put -/
theorem put_right_no (h : PW m a b n z ly ps) {bs : List Int} (hb : DrawOk n bs) (hl : ly.length = 60) : f__law_put_right [.c (a + 2), .c (b + 2), .d (tupD bs)] m = .ok (.d (.bool true)) m := by
  have ct := counts_ok h.w h.ok
  obtain ⟨y, q1, q2⟩ := least_ok (ns := stL n ly) (bs := bs) (by rw [stL_len]; exact hb) (.c (a + 2)) (.c (b + 2)) .u .u .u .u .u m
  have hk := hear_ex (w := "many") (h.methX (i := 0) (v := [.c (a + 2), .c (b + 2), .d (tupD bs), .d (.list ((stL n ly).map PyData.int)), .d y, .d (.int (chF (stL n ly) bs)), .u, .u, .u]) (cl := lCons (cVar 2) lNil) (as := [.d (tupD bs)]) rfl (fun _ _ _ _ => lookR_put) (by simp) (put_no h.r hl)) (by decide) rfl
  have wl := w_lying h.w (i := 1) (v := [.c (a + 2), .c (b + 2), .d (tupD bs), .d (.list ((stL n ly).map PyData.int)), .d y, .d (.int (chF (stL n ly) bs)), .d (.str "many"), .u, .u]) rfl
  have hL := h.w.l
  have ln : opLen (.c (.k (lyK ly))) = some (.d (.int ly.length)) := by
    rw [len_k]
    unfold lyK
    rw [List.length_map]
  have e2 : opEq (.d (.str "many")) (.d (.str "many")) = some (.d (.bool true)) := by rfl
  unfold f__law_put_right
  rw [runF_s]
  have hc : c__law_put_right = (cSeq (cSet 3 (cCall f__law_counts (lCons (cVar 1) lNil))) (cSeq (cSet 4 cLeast) (cSeq (cSet 5 cFirstB) (cSeq (cSet 6 (cHeard f__law_heard (cMeth "Room" "put" f_Room__put (cVar 0) (lCons (cVar 2) lNil)))) (cSeq (cIfS (cB (cOp2 opEq (cOp1 opLen (cItW "lying" (cVar 1))) (cC (.int 60)))) (cRet (cOp2 opEq (cVar 6) (cC (.str "many")))) cNx) (cSeq (cSet 7 (cItW "known" (cVar 1))) (cSeq (cPutW "known" (cVar 1) (cOp2 opAdd (cVar 7) (cC (.int 1)))) (cSeq (cPut (cItW "lying" (cVar 1)) (cVar 7) (cVar 5)) (cSeq (cExp (cMut fApp (cItW "past" (cVar 1)) (cCons (cTup (cCons (cC (.str "come")) (cCons (cVar 7) (cCons (cVar 5) cNil)))) cNil))) (cRet (cAnd (cOp2 opEq (cVar 6) (cLst (cCons (cTup (cCons (cVar 7) (cCons (cVar 5) cNil))) cNil))) (cOp1 opAll (cLc [8] (ciSeq (cOp2 opIx (cVar 6) (cC (.int 0)))) (tgN 8) ctYes (cCallP f__law_is_whole (lCons (cVar 8) lNil))))))))))))))) := rfl
  rw [hc]
  simp [ct, q1, q2, hk, wl, hL, ln, hl, e2]
theorem put_right_ok (h : PW m a b n z ly ps) {bs : List Int} (hb : DrawOk n bs) (hl : ly.length < 60) (hp : ps.length < 70000) :
    ∃ m', f__law_put_right [.c (a + 2), .c (b + 2), .d (tupD bs)] m = .ok (.d (.bool true)) m' ∧ Off6 a b m m' ∧ PW m' a b n (z + 1) (ly ++ [(z, chF (stL n ly) bs)]) (ps ++ [(true, z, chF (stL n ly) bs)]) := by
  have ab := h.ab
  have hz : lyG ly z = none := lyG_none.mpr fun p hp e => by have := (h.h.box p hp).2; omega
  obtain ⟨m1, e1, o1, r1⟩ := put_ok2 h.r h.ok hb hl hz (by show ps.length < _; omega)
  obtain ⟨y, q1, q2⟩ := least_ok (ns := stL n ly) (bs := bs) (by rw [stL_len]; exact hb) (.c (a + 2)) (.c (b + 2)) .u .u .u .u .u m
  have ct := counts_ok h.w h.ok
  have hcr := ch_rng (ns := stL n ly) (bs := bs) (by rw [stL_len]; exact hb)
  rw [stL_len] at hcr
  have e1 : fPutR [.c (a + 2), .d (tupD bs)] m = .ok (.d (.tuple [.int z, .int (chF (stL n ly) bs)])) m1 := e1
  have r1 : InRm m1 a { n := n, ly := ly ++ [(z, chF (stL n ly) bs)], z := z + 1, ps := ps ++ [(true, z, chF (stL n ly) bs)] } := r1
  generalize hx : chF (stL n ly) bs = x at *
  have w1 := h.w.off o1 ab
  have w2 := w1.setZ (z + 1)
  have w3 := w2.setL (ly ++ [(z, x)])
  have w4 := w3.setP (ps ++ [(true, z, x)])
  have oW : Off3 b m1 (((m1.set (b + 2) (.g (.w (wF n b (b + 1) (z + 1))))).set b (.k (lyK (ly ++ [(z, x)])))).set (b + 1) (.l ((ps ++ [(true, z, x)]).map deedS))) := off3
  refine ⟨_, ?_, (Off6.r o1).trans (Off6.w oW), ⟨r1.off oW ab, w4, .come (h.h.mono (by omega)) h.z0 (by omega) hcr.1 hcr.2 hz hl, h.n0, h.n6, by have := h.z0; omega, by rw [List.length_append]; show _ + 1 < _; omega, ab⟩⟩
  have hk := hear_ok (h.meth (i := 0) (v := [.c (a + 2), .c (b + 2), .d (tupD bs), .d (.list ((stL n ly).map PyData.int)), .d y, .d (.int x), .u, .u, .u]) (cl := lCons (cVar 2) lNil) (as := [.d (tupD bs)]) rfl (fun _ _ _ _ => lookR_put) (by simp) e1) o1.len
  generalize hF : PyData.list [.tuple [.int z, .int x]] = FF at *
  have wl := w_lying w1 (i := 1) (v := [.c (a + 2), .c (b + 2), .d (tupD bs), .d (.list ((stL n ly).map PyData.int)), .d y, .d (.int x), .d FF, .u, .u]) rfl
  have hL := w1.l
  have ln : opLen (.c (.k (lyK ly))) = some (.d (.int ly.length)) := by
    rw [len_k]
    unfold lyK
    rw [List.length_map]
  have l60 : ¬ ((ly.length : Int) = 60) := by omega
  have wk := w_known w1 (i := 1) (v := [.c (a + 2), .c (b + 2), .d (tupD bs), .d (.list ((stL n ly).map PyData.int)), .d y, .d (.int x), .d FF, .u, .u]) rfl
  have pz : cPutW "known" (cVar 1) (cOp2 opAdd (cVar 7) (cC (.int 1))) ⟨[.c (a + 2), .c (b + 2), .d (tupD bs), .d (.list ((stL n ly).map PyData.int)), .d y, .d (.int x), .d FF, .d (.int z), .u], m1⟩ = .nx ⟨[.c (a + 2), .c (b + 2), .d (tupD bs), .d (.list ((stL n ly).map PyData.int)), .d y, .d (.int x), .d FF, .d (.int z), .u], m1.set (b + 2) (.g (.w (wF n b (b + 1) (z + 1))))⟩ := by
    have e := cPutW_ok (f := "known") (co := cVar 1) (c := cOp2 opAdd (cVar 7) (cC (.int 1))) (s := ⟨[.c (a + 2), .c (b + 2), .d (tupD bs), .d (.list ((stL n ly).map PyData.int)), .d y, .d (.int x), .d FF, .d (.int z), .u], m1⟩) (s1 := ⟨[.c (a + 2), .c (b + 2), .d (tupD bs), .d (.list ((stL n ly).map PyData.int)), .d y, .d (.int x), .d FF, .d (.int z), .u], m1⟩) (s2 := ⟨[.c (a + 2), .c (b + 2), .d (tupD bs), .d (.list ((stL n ly).map PyData.int)), .d y, .d (.int x), .d FF, .d (.int z), .u], m1⟩) (n := b + 2) (x := .int (z + 1)) (by simp) (by simp) w1.o wF_nd
    rw [wF_put] at e
    exact e
  have wl2 := w_lying w2 (i := 1) (v := [.c (a + 2), .c (b + 2), .d (tupD bs), .d (.list ((stL n ly).map PyData.int)), .d y, .d (.int x), .d FF, .d (.int z), .u]) rfl
  have pi := putIn_k (x := x) hz (by omega)
  have pR := putR_s (n := b) (k := .int z) (v := .int x) (s3 := ⟨[.c (a + 2), .c (b + 2), .d (tupD bs), .d (.list ((stL n ly).map PyData.int)), .d y, .d (.int x), .d FF, .d (.int z), .u], m1.set (b + 2) (.g (.w (wF n b (b + 1) (z + 1))))⟩) w2.l
  have wp := w_past w3 (i := 1) (v := [.c (a + 2), .c (b + 2), .d (tupD bs), .d (.list ((stL n ly).map PyData.int)), .d y, .d (.int x), .d FF, .d (.int z), .u]) rfl
  have hP := w3.p
  have ap := fApp_s (xs := ps.map deedS) (d := .tuple [.str "come", .int z, .int x]) (by rw [List.length_map]; omega)
  have ea : ps.map deedS ++ [.tuple [.str "come", .int z, .int x]] = (ps ++ [(true, z, x)]).map deedS := deedS_app ps (true, z, x)
  rw [ea] at ap
  have tk : (((m1.set (b + 2) (.g (.w (wF n b (b + 1) (z + 1))))).set b (.k (lyK (ly ++ [(z, x)])))).set (b + 1) (.l ((ps ++ [(true, z, x)]).map deedS))).take m.length = ((m1.set (b + 2) (.g (.w (wF n b (b + 1) (z + 1))))).set b (.k (lyK (ly ++ [(z, x)])))).set (b + 1) (.l ((ps ++ [(true, z, x)]).map deedS)) := by
    rw [← o1.len]
    exact take_off oW
  have eq : opEq (.d FF) (.d FF) = some (.d (.bool true)) := by
    rw [← hF]
    exact opEq_self rfl
  have ix : opIx (.d FF) (.d (.int 0)) = some (.d (.tuple [.int z, .int x])) := by
    rw [← hF]
    rfl
  have al : ∀ mm : List Cell, cLc [8] (ciSeq (cOp2 opIx (cVar 6) (cC (.int 0)))) (tgN 8) ctYes (cCallP f__law_is_whole (lCons (cVar 8) lNil)) ⟨[.c (a + 2), .c (b + 2), .d (tupD bs), .d (.list ((stL n ly).map PyData.int)), .d y, .d (.int x), .d FF, .d (.int z), .u], mm⟩ = .ok (.new (.l [.bool true, .bool true])) ⟨[.c (a + 2), .c (b + 2), .d (tupD bs), .d (.list ((stL n ly).map PyData.int)), .d y, .d (.int x), .d FF, .d (.int z), .u], mm⟩ := fun mm => by
    have e := lc_all (own := [8]) (ci := ciSeq (cOp2 opIx (cVar 6) (cC (.int 0)))) (tg := tgN 8) (el := cCallP f__law_is_whole (lCons (cVar 8) lNil)) (s := ⟨[.c (a + 2), .c (b + 2), .d (tupD bs), .d (.list ((stL n ly).map PyData.int)), .d y, .d (.int x), .d FF, .d (.int z), .u], mm⟩) (s1 := ⟨[.c (a + 2), .c (b + 2), .d (tupD bs), .d (.list ((stL n ly).map PyData.int)), .d y, .d (.int x), .d FF, .d (.int z), .u], mm⟩) (ds := [.int z, .int x]) (fun _ => .bool true) (by simp [ix]) (by simp) fun d hd => by
      have hd : d = .int z ∨ d = .int x := by simpa using hd
      rcases hd with rfl | rfl
      · have w := whole_n (d := .int z)
        have w : fWhole [.d (.int z)] [] = .ok (.d (.bool true)) [] := w
        exact ⟨⟨[.c (a + 2), .c (b + 2), .d (tupD bs), .d (.list ((stL n ly).map PyData.int)), .d y, .d (.int x), .d FF, .d (.int z), .d (.int z)], mm⟩, rfl, [.c (a + 2), .c (b + 2), .d (tupD bs), .d (.list ((stL n ly).map PyData.int)), .d y, .d (.int x), .d FF, .d (.int z), .d (.int z)], by simp [w]⟩
      · have w := whole_n (d := .int x)
        have w : fWhole [.d (.int x)] [] = .ok (.d (.bool true)) [] := w
        exact ⟨⟨[.c (a + 2), .c (b + 2), .d (tupD bs), .d (.list ((stL n ly).map PyData.int)), .d y, .d (.int x), .d FF, .d (.int z), .d (.int x)], mm⟩, rfl, [.c (a + 2), .c (b + 2), .d (tupD bs), .d (.list ((stL n ly).map PyData.int)), .d y, .d (.int x), .d FF, .d (.int z), .d (.int x)], by simp [w]⟩
    exact e
  have oa : opAll (.d (.list [.bool true, .bool true])) = some (.d (.bool true)) := rfl
  unfold f__law_put_right
  rw [runF_s]
  have hc : c__law_put_right = (cSeq (cSet 3 (cCall f__law_counts (lCons (cVar 1) lNil))) (cSeq (cSet 4 cLeast) (cSeq (cSet 5 cFirstB) (cSeq (cSet 6 (cHeard f__law_heard (cMeth "Room" "put" f_Room__put (cVar 0) (lCons (cVar 2) lNil)))) (cSeq (cIfS (cB (cOp2 opEq (cOp1 opLen (cItW "lying" (cVar 1))) (cC (.int 60)))) (cRet (cOp2 opEq (cVar 6) (cC (.str "many")))) cNx) (cSeq (cSet 7 (cItW "known" (cVar 1))) (cSeq (cPutW "known" (cVar 1) (cOp2 opAdd (cVar 7) (cC (.int 1)))) (cSeq (cPut (cItW "lying" (cVar 1)) (cVar 7) (cVar 5)) (cSeq (cExp (cMut fApp (cItW "past" (cVar 1)) (cCons (cTup (cCons (cC (.str "come")) (cCons (cVar 7) (cCons (cVar 5) cNil)))) cNil))) (cRet (cAnd (cOp2 opEq (cVar 6) (cLst (cCons (cTup (cCons (cVar 7) (cCons (cVar 5) cNil))) cNil))) (cOp1 opAll (cLc [8] (ciSeq (cOp2 opIx (cVar 6) (cC (.int 0)))) (tgN 8) ctYes (cCallP f__law_is_whole (lCons (cVar 8) lNil))))))))))))))) := rfl
  rw [hc]
  simp [-List.map_append, ct, q1, q2, hk, hF, wl, hL, ln, l60, wk, pz, wl2, pR, pi, wp, hP, ap, eq, al, oa, tk]
end Vm
namespace Vm
open PySem L2
variable {m : List Cell} {a b n : Nat} {z : Int} {ly : List (Int × Int)} {ps : List Deed}
theorem eq_ball : opEq (.d (.str "ball")) (.d (.str "ball")) = some (.d (.bool true)) := by rfl
theorem leave_right_no (h : PW m a b n z ly ps) {d : D} (hd : ∀ bl, d = .int bl → lyG ly bl = none) : f__law_leave_right [.c (a + 2), .c (b + 2), .d d] m = .ok (.d (.bool true)) m := by
  have hk := hear_ex (w := "ball") (h.methX (i := 0) (v := [.c (a + 2), .c (b + 2), .d d, .u, .u]) (cl := lCons (cVar 2) lNil) (as := [.d d]) rfl (fun _ _ _ _ => lookR_leave) (by simp) (leaveR_no h.r hd)) (by decide) rfl
  have hw := hear_ex (w := "ball") (h.methX (i := 0) (v := [.c (a + 2), .c (b + 2), .d d, .d (.str "ball"), .u]) (cl := lCons (cVar 2) lNil) (as := [.d d]) rfl (fun _ _ _ _ => lookR_where) (by simp) (where_no h.r hd)) (by decide) rfl
  have wl := w_lying h.w (i := 1) (v := [.c (a + 2), .c (b + 2), .d d, .d (.str "ball"), .u]) rfl
  have hL := h.w.l
  have w := whole_n (d := d)
  have eb := eq_ball
  unfold f__law_leave_right
  rw [runF_s]
  cases q : isInt d with
  | false =>
    rw [q] at w
    simp [c__law_leave_right, hk, w, hw, eb]
  | true =>
    rw [q] at w
    cases d with
    | int bl =>
      have hn : opHasNot (.c (.k (lyK ly))) (.d (.int bl)) = some (.d (.bool true)) := by rw [hasNot_k, lyK_get, hd bl rfl]; rfl
      simp [c__law_leave_right, hk, w, hw, eb, wl, hL, hn]
    | _ => cases q
theorem leave_right_ok (h : PW m a b n z ly ps) {bl x : Int} (hx : lyG ly bl = some x) (hp : ps.length < 70000) :
    ∃ m', f__law_leave_right [.c (a + 2), .c (b + 2), .d (.int bl)] m = .ok (.d (.bool true)) m' ∧ Off6 a b m m' ∧ PW m' a b n z (lyX ly bl) (ps ++ [(false, bl, x)]) := by
  have ab := h.ab
  obtain ⟨m1, e1, o1, r1⟩ := leaveR_ok h.r hx (by show ps.length < _; omega)
  have r1 : InRm m1 a ⟨n, lyX ly bl, z, ps ++ [(false, bl, x)]⟩ := r1
  have w1 := h.w.off o1 ab
  have w2 := w1.setL (lyX ly bl)
  have w3 := w2.setP (ps ++ [(false, bl, x)])
  have oW : Off3 b m1 ((m1.set b (.k (lyK (lyX ly bl)))).set (b + 1) (.l ((ps ++ [(false, bl, x)]).map deedS))) := off2
  have r3 := r1.off oW ab
  have P : PW ((m1.set b (.k (lyK (lyX ly bl)))).set (b + 1) (.l ((ps ++ [(false, bl, x)]).map deedS))) a b n z (lyX ly bl) (ps ++ [(false, bl, x)]) := ⟨r3, w3, .gone h.h hx, h.n0, h.n6, h.z0, by rw [List.length_append]; show _ + 1 < _; omega, ab⟩
  refine ⟨_, ?_, (Off6.r o1).trans (Off6.w oW), P⟩
  have hk := hear_ok (h.meth (i := 0) (v := [.c (a + 2), .c (b + 2), .d (.int bl), .u, .u]) (cl := lCons (cVar 2) lNil) (as := [.d (.int bl)]) rfl (fun _ _ _ _ => lookR_leave) (by simp) e1) o1.len
  have w : fWhole [.d (.int bl)] [] = .ok (.d (.bool true)) [] := whole_n (d := .int bl)
  have wl := w_lying w1 (i := 1) (v := [.c (a + 2), .c (b + 2), .d (.int bl), .d (.list [.int x]), .u]) rfl
  have hL := w1.l
  have hn : opHasNot (.c (.k (lyK ly))) (.d (.int bl)) = some (.d (.bool false)) := by rw [hasNot_k, lyK_get, hx]; rfl
  have pp := dpop_ok (co := cItW "lying" (cVar 1)) (ck := cVar 2) (s := ⟨[.c (a + 2), .c (b + 2), .d (.int bl), .d (.list [.int x]), .u], m1⟩) (s1 := ⟨[.c (a + 2), .c (b + 2), .d (.int bl), .d (.list [.int x]), .u], m1⟩) (s2 := ⟨[.c (a + 2), .c (b + 2), .d (.int bl), .d (.list [.int x]), .u], m1⟩) (n := b) wl (by simp) hL hL hx
  have wp := w_past w2 (i := 1) (v := [.c (a + 2), .c (b + 2), .d (.int bl), .d (.list [.int x]), .d (.int x)]) rfl
  have hP := w2.p
  have ap := fApp_s (xs := ps.map deedS) (d := .tuple [.str "gone", .int bl, .int x]) (by rw [List.length_map]; omega)
  have ea : ps.map deedS ++ [.tuple [.str "gone", .int bl, .int x]] = (ps ++ [(false, bl, x)]).map deedS := deedS_app ps (false, bl, x)
  rw [ea] at ap
  have hw := hear_ex (w := "ball") (P.methX (i := 0) (v := [.c (a + 2), .c (b + 2), .d (.int bl), .d (.list [.int x]), .d (.int x)]) (cl := lCons (cVar 2) lNil) (as := [.d (.int bl)]) rfl (fun _ _ _ _ => lookR_where) (by simp) (where_no P.r (d := .int bl) fun b' e => by cases e; exact lyX_G)) (by decide) rfl
  have e2 : opEq (.d (.list [.int x])) (.d (.list [.int x])) = some (.d (.bool true)) := opEq_self rfl
  have eb := eq_ball
  have tk : ((m1.set b (.k (lyK (lyX ly bl)))).set (b + 1) (.l ((ps ++ [(false, bl, x)]).map deedS))).take m.length = (m1.set b (.k (lyK (lyX ly bl)))).set (b + 1) (.l ((ps ++ [(false, bl, x)]).map deedS)) := by
    rw [← o1.len]
    exact take_off oW
  generalize hF : PyData.list [.int x] = FF at *
  unfold f__law_leave_right
  rw [runF_s]
  simp [-List.map_append, c__law_leave_right, hk, hF, w, wl, hL, hn, pp, wp, hP, ap, e2, hw, eb, tk]
/-! ### all is shown -/
theorem shown_right_ok (h : PW m a b n z ly ps) : f__law_shown_right [.c (a + 2), .c (b + 2)] m = .ok (.d (.bool true)) m := by
  have ab := h.ab
  have ct := counts_ok h.w h.ok
  have st := h.meth (i := 0) (v := [.c (a + 2), .c (b + 2), .d (.list ((stL n ly).map PyData.int)), .u]) (cl := lNil) (as := []) rfl (fun _ _ _ _ => lookR_stand) (by simp) (standR_ok h.r h.ok)
  have lo := h.meth (i := 0) (v := [.c (a + 2), .c (b + 2), .d (.list ((stL n ly).map PyData.int)), .u]) (cl := lNil) (as := []) rfl (fun _ _ _ _ => lookR_load) (by simp) (load_ok2 h.r h.ok)
  have n1 : opNe (.d (tupD (stL n ly))) (.d (tupD (stL n ly))) = some (.d (.bool false)) := by
    have := opNe_intsT (as := stL n ly) (bs := stL n ly)
    rw [decide_eq_true rfl] at this
    exact this
  have n2 : opNe (.d (tupD (sortD (stL n ly)))) (.d (tupD (sortD (stL n ly)))) = some (.d (.bool false)) := by
    have := opNe_intsT (as := sortD (stL n ly)) (bs := sortD (stL n ly))
    rw [decide_eq_true rfl] at this
    exact this
  have to : ∀ ns : List Int, opTuple (.d (.list (ns.map PyData.int))) = some (.d (tupD ns)) := fun _ => rfl
  have so : opSortedR (.d (.list ((stL n ly).map PyData.int))) = some (.new (.l ((sortD (stL n ly)).map PyData.int))) := by
    show (ints? ((stL n ly).map PyData.int)).bind (fun ns => some (Rv.new (.l ((sortD ns).map PyData.int)))) = _
    rw [ints?_map]
    rfl
  let V : Sl → List Sl := fun y => [.c (a + 2), .c (b + 2), .d (.list ((stL n ly).map PyData.int)), y]
  let M := m.set b (.g (.kl (lyK ly)))
  have hb := h.w.lt
  have Mo : M[b + 2]? = some (.g (.w (wF n b (b + 1) z))) := set_ne' h.w.o (by omega)
  have Ml : M[b]? = some (.g (.kl (lyK ly))) := List.getElem?_set_self (by omega)
  have rM : InRm M a ⟨n, ly, z, ps⟩ := ⟨set_ne' h.r.o (by omega), set_ne' h.r.l (by omega), set_ne' h.r.p (by omega)⟩
  have wl : ∀ y, cItW "lying" (cVar 1) ⟨V y, M⟩ = .ok (.ref b) ⟨V y, M⟩ := fun y => cItW_ok (n := b + 2) rfl Mo wF_lying
  have ck : ciKeyL (cItW "lying" (cVar 1)) ⟨V .u, M⟩ = .ok ((lyK ly).map fun p => kD p.1) ⟨V .u, M⟩ := ciKeyL_ok (wl _) Ml
  have lc := lc_all (own := [3]) (ci := ciKeyL (cItW "lying" (cVar 1))) (tg := tgN 3) (el := cOp2 opEq (cMeth "Room" "where" f_Room__where (cVar 0) (lCons (cVar 3) lNil)) (cOp2 opItem (cItW "lying" (cVar 1)) (cVar 3))) (s := ⟨V .u, M⟩) (s1 := ⟨V .u, M⟩) (ds := (lyK ly).map fun p => kD p.1) (fun _ => .bool true) ck (by unfold lyK; rw [List.length_map, List.length_map]; have := h.h.few; omega) fun d hd => by
    obtain ⟨e, he, rfl⟩ := List.mem_map.mp hd
    unfold lyK at he
    obtain ⟨p, hp, rfl⟩ := List.mem_map.mp he
    have g : lyG ly p.1 = some p.2 := lyG_of h.h.nd (by obtain ⟨p1, p2⟩ := p; exact hp)
    have w := where_ok rM (b := p.1) (x := p.2) g
    have ew := meth_rm (i := 0) (v := V (.d (.int p.1))) (cl := lCons (cVar 3) lNil) (as := [.d (.int p.1)]) rM rfl lookR_where (by simp [V]) w
    have it : opItem (.c (.g (.kl (lyK ly)))) (.d (.int p.1)) = some (.d (.int p.2)) := it_kl (by rw [lyK_get, g]; rfl)
    refine ⟨⟨V (.d (.int p.1)), M⟩, rfl, V (.d (.int p.1)), ?_⟩
    have w2 := wl (.d (.int p.1))
    simp only [V] at ew w2 ⊢
    simp [ew, w2, Ml, it]
  have oa := opAll_b (p := fun _ : L2.Key × D => true) (xs := lyK ly)
  have al : (lyK ly).all (fun _ => true) = true := by simp
  rw [al] at oa
  rw [List.map_map, show ((lyK ly).map ((fun _ : D => PyData.bool true) ∘ fun p => kD p.1)) = (lyK ly).map (fun p => PyData.bool ((fun _ : L2.Key × D => true) p)) from rfl] at lc
  generalize ((lyK ly).map fun p => PyData.bool ((fun _ : L2.Key × D => true) p)) = BL at lc oa
  have lk : lkE (pkF 1 "lying") (cOp1 opAll (cLc [3] (ciKeyL (cItW "lying" (cVar 1))) (tgN 3) ctYes (cOp2 opEq (cMeth "Room" "where" f_Room__where (cVar 0) (lCons (cVar 3) lNil)) (cOp2 opItem (cItW "lying" (cVar 1)) (cVar 3))))) ⟨V .u, m⟩ = .ok (.d (.bool true)) ⟨V .u, m⟩ := by
    have pk : pkF 1 "lying" ⟨V .u, m⟩ = some b := by
      unfold pkF
      show (match m[b + 2]? with
        | some (.g (.o _ fs)) => (match fs.lookup ("lying" : Str) with
          | some (.c k) => some k
          | _ => none)
        | some (.g (.w fs)) => (match fs.lookup ("lying" : Str) with
          | some (.c k) => some k
          | _ => none)
        | _ => none) = some b
      rw [h.w.o]
      rfl
    have oo : cOp1 opAll (cLc [3] (ciKeyL (cItW "lying" (cVar 1))) (tgN 3) ctYes (cOp2 opEq (cMeth "Room" "where" f_Room__where (cVar 0) (lCons (cVar 3) lNil)) (cOp2 opItem (cItW "lying" (cVar 1)) (cVar 3)))) ⟨V .u, M⟩ = .ok (.d (.bool true)) ⟨V .u, M⟩ := by
      simp [lc, oa]
    have eqM : M.set b (.k (lyK ly)) = m := by
      show (m.set b _).set b _ = _
      rw [List.set_set]
      exact set_same h.w.l
    unfold lkE
    rw [pk]
    dsimp only
    rw [h.w.l]
    dsimp only
    rw [show m.set b (Cell.g (GX.kl (lyK ly))) = M from rfl, oo]
    dsimp only
    rw [Ml]
    dsimp only
    rw [eqM]
  unfold f__law_shown_right
  rw [runF_s]
  simp only [V] at lk
  simp [c__law_shown_right, ct, st, load_eq, lo, n1, n2, to, so, lk]
end Vm
namespace Vm
open PySem L2
variable {a b n : Nat} {z : Int} {ly : List (Int × Int)} {ps : List Deed}
/-! ### the pen stands ahead of both -/
theorem InW.head {p p' : Cell} {r : List Cell} (h : InW (p :: r) b n z ly ps) (hb : 0 < b) : InW (p' :: r) b n z ly ps := by
  have e : (p :: r).set 0 p' = p' :: r := rfl
  rw [← e]
  exact ⟨set_ne' h.o (by omega), set_ne' h.l (by omega), set_ne' h.p (by omega)⟩
theorem PW.head {p p' : Cell} {r : List Cell} (h : PW (p :: r) a b n z ly ps) (ha : 0 < a) (hb : 0 < b) : PW (p' :: r) a b n z ly ps := by
  have e : (p :: r).set 0 p' = p' :: r := rfl
  refine ⟨?_, h.w.head hb, h.h, h.n0, h.n6, h.z0, h.few, h.ab⟩
  rw [← e]
  exact ⟨set_ne' h.r.o (by omega), set_ne' h.r.l (by omega), set_ne' h.r.p (by omega)⟩
theorem Off6.head {p : Cell} {r m' : List Cell} (h : Off6 a b (p :: r) m') (ha : 0 < a) (hb : 0 < b) : ∃ r', m' = p :: r' := by
  have h0 := h.at' 0 (by omega) (by omega)
  cases m' with
  | nil => cases h0
  | cons x r' =>
    cases h0
    exact ⟨r', rfl⟩
theorem draws_okK {P : Nat → Cell → Prop} {f : Fn} (df : IsDraw f P) {own : List Nat} {ci : CI} {tg : Tg} {el : CE} {s0 : S} {v : List Sl} {p : Cell} {r : List Cell} {B n : Nat} {many : Int} {ds : List D} (hi : ci s0 = .ok ds ⟨v, p :: r⟩) (hl : ds.length = n) (hn : n ≤ 10000) (hp : P B p) (hB : B < 900000) (hm : 0 < many) (hm2 : many.natAbs.log2 < 9000)
    (ht : ∀ d p', d ∈ ds → ∃ t, tg d ⟨wipeV v own, p' :: r⟩ = some t ∧ t.m = p' :: r ∧ ∀ a m', f [.c 0, .d (.int many)] (p' :: r) = .ok (.d (.int a)) m' → ∃ v3, cv el t = .ok (.d (.int a)) ⟨v3, m'⟩) :
    ∃ (ns : List Int) (p' : Cell), cLc own ci tg ctYes el s0 = .ok (.new (.l (ns.map PyData.int))) ⟨v, p' :: r⟩ ∧ P (B + n) p' ∧ ns.length = n ∧ ∀ x, x ∈ ns → 0 ≤ x ∧ x < many := by
  obtain ⟨acc, m', e, ns, p', rfl, rfl, hl', hp', hb⟩ := lc_inv (own := own) (ci := ci) (tg := tg) (tt := ctYes) (el := el) (s := s0) (s1 := ⟨v, p :: r⟩) (ds := ds)
    (fun i acc m => ∃ (ns : List Int) (p' : Cell), acc = ns.map PyData.int ∧ m = p' :: r ∧ ns.length = i ∧ P (B + i) p' ∧ ∀ x, x ∈ ns → 0 ≤ x ∧ x < many) hi (by omega) ⟨[], p, rfl, rfl, rfl, hp, fun b h => nomatch h⟩ fun i acc m d hd hi => by
      obtain ⟨ns, p', rfl, rfl, hl', hp', hb⟩ := hi
      have hi := (List.getElem?_eq_some_iff.mp hd).1
      obtain ⟨a, p2, e, a0, a1, hp2⟩ := df _ p' r many hp' (by omega) hm hm2
      obtain ⟨t, ht1, ht2, ht3⟩ := ht d p' (List.mem_of_getElem? hd)
      obtain ⟨v3, h3⟩ := ht3 a _ e
      refine ⟨t, ht1, true, t, rfl, (fun q => by cases q), fun _ => ⟨.int a, ⟨v3, p2 :: r⟩, h3, ns ++ [a], p2, by simp, rfl, by simp [hl'], hp2, fun x hx => ?_⟩⟩
      rcases List.mem_append.mp hx with h | h
      · exact hb x h
      · have : x = a := by simpa using h
        omega
  rw [hl] at hl' hp'
  exact ⟨ns, p', e, hp', hl', hb⟩
/-! ### a ball that lies there, one known, or a thing of any kind -/
def oddD (z : Int) : List D := [.none, .bool true, .bool false, .str "0", .list [], .tuple [.int 0], .dict [], .int (-1), .int (10 ^ 11), .int z, .list [.int 0], .str ""]
theorem ball_ok {B : Nat} {p : Cell} {r : List Cell} (hp : IsPen B p) (hB : B < 90000) (hb : 0 < b) (h : InW (p :: r) b n z ly ps) (hz : 0 ≤ z) (hz2 : z < 100000) (hl : ly.length ≤ 60) :
    ∃ (d : D) (p' : Cell), f__law_ball [.c 0, .c (b + 2)] (p :: r) = .ok (.d d) (p' :: r) ∧ IsPen (B + 3) p' := by
  obtain ⟨v, p1, e1, v0, v1, hp1⟩ := drawA B p r 6 hp (by omega) (by decide) (by decide)
  obtain ⟨w, p2, e2, w0, w1, hp2⟩ := drawA _ p1 r 12 hp1 (by omega) (by decide) (by decide)
  have w2 : InW (p2 :: r) b n z ly ps := h.head hb
  let ks : List Int := sortA (ly.map (·.1))
  have hks : ks.length = ly.length := by
    show (sortA _).length = _
    rw [(sortA_perm _).length_eq, List.length_map]
  have lK : opListK (.c (.k (lyK ly))) = some (.new (.l ((ly.map (·.1)).map PyData.int))) := by
    show some (Rv.new (.l ((lyK ly).map fun p => kD p.1))) = _
    unfold lyK
    rw [List.map_map, List.map_map]
    rfl
  have wl := w_lying w2 (i := 1) (v := [.c 0, .c (b + 2), .d (.int v), .d (.int w), .u]) rfl
  have hL := w2.l
  have so : opSorted (.d (.list ((ly.map (·.1)).map PyData.int))) = some (.new (.l (ks.map PyData.int))) := opSorted_s
  have ne : opNe (.d (.list (ks.map PyData.int))) (.d (.list [])) = some (.d (.bool (!ks.isEmpty))) := by
    have := opNe_intsL (as := ks) (bs := [])
    rw [show ([] : List Int).map PyData.int = [] from rfl] at this
    rw [this]
    cases ks <;> rfl
  clear_value ks
  generalize (ly.map (·.1)).map PyData.int = KL at lK so
  by_cases hA : v < 3 ∧ ks ≠ []
  · obtain ⟨hv, hk⟩ := hA
    have hk0 : 0 < ks.length := List.length_pos_iff.mpr hk
    obtain ⟨i, p3, e3, i0, i1, hp3⟩ := drawA _ p2 r (ks.length : Int) hp2 (by omega) (by omega) (log2_many (by omega) (by omega))
    have ix : opIx (.d (.list (ks.map PyData.int))) (.d (.int i)) = some (.d (.int (ks.getD i.toNat 0))) := at_box i0 i1
    have he : ks.isEmpty = false := by
      cases ks with
      | nil => exact absurd rfl hk
      | cons _ _ => rfl
    refine ⟨.int (ks.getD i.toNat 0), p3, ?_, hp3⟩
    unfold f__law_ball
    rw [runF_s]
    simp [-List.getD_eq_getElem?_getD, c__law_ball, draw_eq, e1, e2, wl, hL, lK, so, ne, hv, he, e3, ix]
  · have cond : (tAnd' (cB (cOp2 opLt (cVar 2) (cC (.int 3)))) (cB (cOp2 opNe (cVar 4) (cLst cNil)))) ⟨[.c 0, .c (b + 2), .d (.int v), .d (.int w), .d (.list (ks.map PyData.int))], p2 :: r⟩ = .ok false ⟨[.c 0, .c (b + 2), .d (.int v), .d (.int w), .d (.list (ks.map PyData.int))], p2 :: r⟩ := by
      by_cases hv : v < 3
      · have hk : ks = [] := Classical.byContradiction fun q => hA ⟨hv, q⟩
        have he : ks.isEmpty = true := by rw [hk]; rfl
        simp [hv, ne, he]
      · simp [hv]
    have hc : c__law_ball = (cSeq (cSet 2 (cCall f__law_draw (lCons (cVar 0) (lCons (cC (.int 6)) lNil)))) (cSeq (cSet 3 (cCall f__law_draw (lCons (cVar 0) (lCons (cC (.int 12)) lNil)))) (cSeq (cSet 4 (cOp1 opSorted (cOp1 opListK (cItW "lying" (cVar 1))))) (cSeq (cIfS (tAnd' (cB (cOp2 opLt (cVar 2) (cC (.int 3)))) (cB (cOp2 opNe (cVar 4) (cLst cNil)))) (cRet (cOp2 opIx (cVar 4) (cCall f__law_draw (lCons (cVar 0) (lCons (cOp1 opLen (cVar 4)) lNil))))) cNx) (cSeq (cIfS (cB (cOp2 opEq (cVar 2) (cC (.int 3)))) (cRet (cCall f__law_draw (lCons (cVar 0) (lCons (cOp2 opAdd (cItW "known" (cVar 1)) (cC (.int 2))) lNil)))) cNx) (cRet (cOp2 opIx (cLst (cCons (cC .none) (cCons (cC (.bool true)) (cCons (cC (.bool false)) (cCons (cC (.str "0")) (cCons (cLst cNil) (cCons (cTup (cCons (cC (.int 0)) cNil)) (cCons cNewK (cCons (cOp1 opNeg (cC (.int 1))) (cCons (cOp2 opPow (cC (.int 10)) (cC (.int 11))) (cCons (cItW "known" (cVar 1)) (cCons (cLst (cCons (cC (.int 0)) cNil)) (cCons (cC (.str "")) cNil))))))))))))) (cVar 3)))))))) := rfl
    have wk := w_known w2 (i := 1) (v := [.c 0, .c (b + 2), .d (.int v), .d (.int w), .d (.list (ks.map PyData.int))]) rfl
    by_cases h3 : v = 3
    · obtain ⟨i, p3, e3, i0, i1, hp3⟩ := drawA _ p2 r (z + 2) hp2 (by omega) (by omega) (log2_many (by omega) (by omega))
      subst h3
      refine ⟨.int i, p3, ?_, hp3⟩
      unfold f__law_ball
      rw [runF_s, hc]
      generalize (tAnd' (cB (cOp2 opLt (cVar 2) (cC (.int 3)))) (cB (cOp2 opNe (cVar 4) (cLst cNil)))) = CC at *
      simp [draw_eq, e1, e2, wl, hL, lK, so, cond, wk, e3]
    · obtain ⟨d, ix⟩ : ∃ d, opIx (.d (.list (oddD z))) (.d (.int w)) = some (.d d) := by
        obtain ⟨d, _, h⟩ := pickT (xs := oddD z) w0 (by show w < 12; exact w1)
        exact ⟨(oddD z)[w.toNat]'(by show w.toNat < 12; omega), opIx_l (atI_nat w0 (List.getElem?_eq_getElem (by show w.toNat < 12; omega)))⟩
      have po : opPow (.d (.int 10)) (.d (.int 11)) = some (.d (.int (10 ^ 11))) := rfl
      have nk : ∀ s : S, cNewK s = .ok (.new (.k [])) s := fun _ => rfl
      have ld : (cLst (cCons (cC .none) (cCons (cC (.bool true)) (cCons (cC (.bool false)) (cCons (cC (.str "0")) (cCons (cLst cNil) (cCons (cTup (cCons (cC (.int 0)) cNil)) (cCons cNewK (cCons (cOp1 opNeg (cC (.int 1))) (cCons (cOp2 opPow (cC (.int 10)) (cC (.int 11))) (cCons (cItW "known" (cVar 1)) (cCons (cLst (cCons (cC (.int 0)) cNil)) (cCons (cC (.str "")) cNil))))))))))))) ⟨[.c 0, .c (b + 2), .d (.int v), .d (.int w), .d (.list (ks.map PyData.int))], p2 :: r⟩ = .ok (.new (.l (oddD z))) ⟨[.c 0, .c (b + 2), .d (.int v), .d (.int w), .d (.list (ks.map PyData.int))], p2 :: r⟩ := by
        simp [nk, po, wk, oddD]
      refine ⟨d, p2, ?_, hp2.mono (by omega)⟩
      unfold f__law_ball
      rw [runF_s, hc]
      generalize (tAnd' (cB (cOp2 opLt (cVar 2) (cC (.int 3)))) (cB (cOp2 opNe (cVar 4) (cLst cNil)))) = CC at *
      generalize (cLst (cCons (cC .none) (cCons (cC (.bool true)) (cCons (cC (.bool false)) (cCons (cC (.str "0")) (cCons (cLst cNil) (cCons (cTup (cCons (cC (.int 0)) cNil)) (cCons cNewK (cCons (cOp1 opNeg (cC (.int 1))) (cCons (cOp2 opPow (cC (.int 10)) (cC (.int 11))) (cCons (cItW "known" (cVar 1)) (cCons (cLst (cCons (cC (.int 0)) cNil)) (cCons (cC (.str "")) cNil))))))))))))) = LL at *
      generalize oddD z = OO at *
      simp [draw_eq, e1, e2, wl, hL, lK, so, cond, h3, ld, ix]
end Vm
namespace Vm
open PySem L2
variable {a b n : Nat} {z : Int} {ly : List (Int × Int)} {ps : List Deed}
/-- what a deed leaves: some state of the room and the world, alike -/
structure Got (a b n : Nat) (z : Int) (l : Nat) (p' : Cell) (r r' : List Cell) : Prop where
  ex : ∃ z' ly' ps', PW (p' :: r') a b n z' ly' ps' ∧ z' ≤ z + 1 ∧ ps'.length ≤ l + 1
  off : Off6 a b (p' :: r) (p' :: r')
theorem put_got {p : Cell} {r : List Cell} (ha : 0 < a) (hb : 0 < b) (h : PW (p :: r) a b n z ly ps) {bs : List Int} (hd : DrawOk n bs) (hp : ps.length < 60000) :
    ∃ r', f__law_put_right [.c (a + 2), .c (b + 2), .d (tupD bs)] (p :: r) = .ok (.d (.bool true)) (p :: r') ∧ Got a b n z ps.length p r r' := by
  by_cases hl : ly.length = 60
  · exact ⟨r, put_right_no h hd hl, ⟨z, ly, ps, h, by omega, by omega⟩, .refl⟩
  · have := h.h.few
    obtain ⟨m', e, o, g⟩ := put_right_ok h hd (by omega) (by omega)
    obtain ⟨r', rfl⟩ := o.head ha hb
    exact ⟨r', e, ⟨_, _, _, g, by omega, by rw [List.length_append]; exact Nat.le_refl _⟩, o⟩
theorem leave_got {p : Cell} {r : List Cell} (ha : 0 < a) (hb : 0 < b) (h : PW (p :: r) a b n z ly ps) (d : D) (hp : ps.length < 60000) :
    ∃ r', f__law_leave_right [.c (a + 2), .c (b + 2), .d d] (p :: r) = .ok (.d (.bool true)) (p :: r') ∧ Got a b n z ps.length p r r' := by
  by_cases hx : ∃ bl x, d = .int bl ∧ lyG ly bl = some x
  · obtain ⟨bl, x, rfl, hx⟩ := hx
    obtain ⟨m', e, o, g⟩ := leave_right_ok h hx (by omega)
    obtain ⟨r', rfl⟩ := o.head ha hb
    exact ⟨r', e, ⟨_, _, _, g, by omega, by rw [List.length_append]; exact Nat.le_refl _⟩, o⟩
  · refine ⟨r, leave_right_no h fun bl e => ?_, ⟨z, ly, ps, h, by omega, by omega⟩, .refl⟩
    cases q : lyG ly bl with
    | none => rfl
    | some x => exact absurd ⟨bl, x, e, q⟩ hx
theorem back_got {p : Cell} {r : List Cell} (ha : 0 < a) (hb : 0 < b) (h : PW (p :: r) a b n z ly ps) :
    ∃ r', f__law_back_right [.c (a + 2), .c (b + 2)] (p :: r) = .ok (.d (.bool true)) (p :: r') ∧ Off6 a b (p :: r) (p :: r') ∧ ∃ ly' ps', PW (p :: r') a b n z ly' ps' ∧ ps'.length = ps.length - 1 := by
  rcases List.eq_nil_or_concat ps with rfl | ⟨ps0, d, hd⟩
  · exact ⟨r, back_right_no h, .refl, ly, [], h, rfl⟩
  · have hd : ps = ps0 ++ [d] := by rw [hd, List.concat_eq_append]
    subst hd
    obtain ⟨m', ly', e, o, g⟩ := back_right_ok h
    obtain ⟨r', rfl⟩ := o.head ha hb
    exact ⟨r', e, o, ly', ps0, g, by rw [List.length_append]; show _ = _ + 1 - 1; omega⟩
def cDrw : CE := (cLc [5] (ciR1 (cVar 4)) (tgN 5) ctYes (cCall f__law_draw (lCons (cVar 0) (lCons (cItW "boxes" (cVar 2)) lNil))))
theorem deed_right_ok {B : Nat} {p : Cell} {r : List Cell} (hp : IsPen B p) (hB : B < 80000) (ha : 0 < a) (hb : 0 < b) (h : PW (p :: r) a b n z ly ps) (hl : ps.length < 60000) (hz : z < 90000) :
    ∃ (p' : Cell) (r' : List Cell), f__law_deed_right [.c 0, .c (a + 2), .c (b + 2)] (p :: r) = .ok (.d (.bool true)) (p' :: r') ∧ IsPen (B + 10) p' ∧ Got a b n z ps.length p' r r' := by
  obtain ⟨v, p1, e1, v0, v1, hp1⟩ := drawA B p r 8 hp (by omega) (by decide) (by decide)
  obtain ⟨s, p2, e2, s0, s1, hp2⟩ := drawA _ p1 r 3 hp1 (by omega) (by decide) (by decide)
  have h2 : PW (p2 :: r) a b n z ly ps := h.head ha hb
  have hc : c__law_deed_right = (cSeq (cSet 3 (cCall f__law_draw (lCons (cVar 0) (lCons (cC (.int 8)) lNil)))) (cSeq (cSet 4 (cOp2 opAdd (cC (.int 1)) (cCall f__law_draw (lCons (cVar 0) (lCons (cC (.int 3)) lNil))))) (cSeq (cIfS (cB (cOp2 opLt (cVar 3) (cC (.int 4)))) (cRet (cCall f__law_put_right (lCons (cVar 1) (lCons (cVar 2) (lCons (cOp1 opTuple cDrw) lNil))))) cNx) (cSeq (cIfS (cB (cOp2 opLt (cVar 3) (cC (.int 6)))) (cRet (cCall f__law_leave_right (lCons (cVar 1) (lCons (cVar 2) (lCons (cCall f__law_ball (lCons (cVar 0) (lCons (cVar 2) lNil))) lNil))))) cNx) (cRet (cCall f__law_back_right (lCons (cVar 1) (lCons (cVar 2) lNil)))))))) := rfl
  have tk : ∀ (p' : Cell) (r' : List Cell), r'.length = r.length → (p' :: r').take (p :: r).length = p' :: r' := fun p' r' e => by
    have : (p :: r).length = (p' :: r').length := by simp [e]
    rw [this, List.take_length]
  by_cases hv : v < 4
  · have hi : ciR1 (cVar 4) ⟨[.c 0, .c (a + 2), .c (b + 2), .d (.int v), .d (.int (1 + s)), .u], p2 :: r⟩ = .ok (rangeD 0 (1 + s).toNat) ⟨[.c 0, .c (a + 2), .c (b + 2), .d (.int v), .d (.int (1 + s)), .u], p2 :: r⟩ := ciR1_s (n := 1 + s) (by simp) (by omega) (by omega)
    obtain ⟨xs, p3, e3, hp3, hxl, hxb⟩ := draws_okK drawA (own := [5]) (tg := tgN 5) (el := cCall f__law_draw (lCons (cVar 0) (lCons (cItW "boxes" (cVar 2)) lNil))) (n := (1 + s).toNat) (many := (n : Int)) hi (rangeD_len _ _) (by omega) hp2 (by omega) (by have := h.n0; omega) (log2_many (by have := h.n0; omega) (by have := h.n6; omega)) fun d p' _ => by
      have hw : InW (p' :: r) b n z ly ps := h.w.head hb
      have wb := w_boxes hw (i := 2) (v := [.c 0, .c (a + 2), .c (b + 2), .d (.int v), .d (.int (1 + s)), .d d]) rfl
      refine ⟨⟨[.c 0, .c (a + 2), .c (b + 2), .d (.int v), .d (.int (1 + s)), .d d], p' :: r⟩, rfl, rfl, fun x m' e => ⟨[.c 0, .c (a + 2), .c (b + 2), .d (.int v), .d (.int (1 + s)), .d d], ?_⟩⟩
      simp [draw_eq, wb, e]
    have dok : DrawOk n xs := ⟨fun e => by rw [e] at hxl; simp at hxl; omega, hxb, by omega⟩
    have h3 : PW (p3 :: r) a b n z ly ps := h.head ha hb
    obtain ⟨r', e4, g⟩ := put_got ha hb h3 dok hl
    refine ⟨p3, r', ?_, hp3.mono (by omega), g⟩
    have e3 : cDrw ⟨[.c 0, .c (a + 2), .c (b + 2), .d (.int v), .d (.int (1 + s)), .u], p2 :: r⟩ = .ok (.new (.l (xs.map PyData.int))) ⟨[.c 0, .c (a + 2), .c (b + 2), .d (.int v), .d (.int (1 + s)), .u], p3 :: r⟩ := e3
    have to : opTuple (.d (.list (xs.map PyData.int))) = some (.d (tupD xs)) := rfl
    have t := tk p3 r' (by have := g.off.len; simpa using this)
    unfold f__law_deed_right
    rw [runF_s, hc]
    simp [-List.take_succ_cons, draw_eq, e1, e2, hv, e3, to, e4]
    simpa using t
  · by_cases hv6 : v < 6
    · obtain ⟨d, p3, e3, hp3⟩ := ball_ok hp2 (by omega) hb h2.w h.z0 (by omega) h.h.few
      have h3 : PW (p3 :: r) a b n z ly ps := h.head ha hb
      obtain ⟨r', e4, g⟩ := leave_got ha hb h3 d hl
      refine ⟨p3, r', ?_, hp3.mono (by omega), g⟩
      have t := tk p3 r' (by have := g.off.len; simpa using this)
      unfold f__law_deed_right
      rw [runF_s, hc]
      simp [-List.take_succ_cons, draw_eq, e1, e2, hv, hv6, e3, e4]
      simpa using t
    · obtain ⟨r', e4, o, ly', ps', g, hg⟩ := back_got ha hb h2
      refine ⟨p2, r', ?_, hp2.mono (by omega), ⟨z, ly', ps', g, by omega, by omega⟩, o⟩
      have t := tk p2 r' (by have := o.len; simpa using this)
      unfold f__law_deed_right
      rw [runF_s, hc]
      simp [-List.take_succ_cons, draw_eq, e1, e2, hv, hv6, e4]
      simpa using t
end Vm
namespace Vm
open PySem L2
/-! ### a room and a world of one's own, behind what stood there -/
structure FsK (r : List Cell) (n i B : Nat) (m : List Cell) : Prop where
  ex : ∃ p t z ly ps, m = p :: (r ++ t) ∧ IsPen B p ∧ PW m (r.length + 1) (r.length + 4) n z ly ps ∧ z ≤ i ∧ ps.length ≤ i
theorem off_tail {p : Cell} {r t r' : List Cell} (o : Off6 (r.length + 1) (r.length + 4) (p :: (r ++ t)) (p :: r')) : ∃ t', r' = r ++ t' := by
  refine ⟨r'.drop r.length, ?_⟩
  have e : r'.take r.length = r := by
    refine List.ext_getElem? fun i => ?_
    by_cases hi : i < r.length
    · rw [List.getElem?_take_of_lt hi]
      have := o.at' (i + 1) (by omega) (by omega)
      have h2 : r'[i]? = (r ++ t)[i]? := this
      rw [h2, List.getElem?_append_left hi]
    · rw [List.getElem?_eq_none (by rw [List.length_take]; omega), List.getElem?_eq_none (by omega)]
  conv => lhs; rw [← List.take_append_drop r.length r', e]
variable {r m : List Cell} {n i B : Nat} {y4 y5 : Sl}
abbrev S6 (r : List Cell) (n : Nat) (y4 y5 : Sl) : List Sl := [.c 0, .d (.int n), .c (r.length + 1 + 2), .c (r.length + 4 + 2), y4, y5]
theorem FsK.got {p : Cell} {t r' : List Cell} {z : Int} {l : Nat} (hp : IsPen B p) (hz : z ≤ i) (hl : l ≤ i) (g : Got (r.length + 1) (r.length + 4) n z l p (r ++ t) r') : FsK r n (i + 1) B (p :: r') := by
  obtain ⟨z', ly', ps', h, h1, h2⟩ := g.ex
  obtain ⟨t', rfl⟩ := off_tail g.off
  exact ⟨p, t', z', ly', ps', rfl, hp, h, by omega, by omega⟩
def ePut (e : CE) : CE := (cCall f__law_put_right (lCons (cVar 2) (lCons (cVar 3) (lCons e lNil))))
def eBack : CE := (cCall f__law_back_right (lCons (cVar 2) (lCons (cVar 3) lNil)))
def eShown : CE := (cCall f__law_shown_right (lCons (cVar 2) (lCons (cVar 3) lNil)))
def eLeave (e : CE) : CE := (cCall f__law_leave_right (lCons (cVar 2) (lCons (cVar 3) (lCons e lNil))))
def e2D : CE := (cTup (cCons (cCall f__law_draw (lCons (cVar 0) (lCons (cVar 1) lNil))) (cCons (cCall f__law_draw (lCons (cVar 0) (lCons (cVar 1) lNil))) cNil)))
theorem put2_ok (h : FsK r n i B m) (hi : i < 50000) (hB : B < 80000) : ∃ m', ePut e2D ⟨S6 r n y4 y5, m⟩ = .ok (.d (.bool true)) ⟨S6 r n y4 y5, m'⟩ ∧ FsK r n (i + 1) (B + 2) m' := by
  obtain ⟨p, t, z, ly, ps, rfl, hp, hw, hz, hl⟩ := h.ex
  have n0 := hw.n0
  have n6 := hw.n6
  obtain ⟨v, p1, e1, v0, v1, hp1⟩ := drawA B p (r ++ t) (n : Int) hp (by omega) (by omega) (log2_many (by omega) (by omega))
  obtain ⟨w, p2, e2, w0, w1, hp2⟩ := drawA _ p1 (r ++ t) (n : Int) hp1 (by omega) (by omega) (log2_many (by omega) (by omega))
  have h2 : PW (p2 :: (r ++ t)) (r.length + 1) (r.length + 4) n z ly ps := hw.head (by omega) (by omega)
  have dok : DrawOk n [v, w] := ⟨by simp, fun b hb => by
    have : b = v ∨ b = w := by simpa using hb
    rcases this with rfl | rfl
    · exact ⟨v0, v1⟩
    · exact ⟨w0, w1⟩, by simp⟩
  obtain ⟨r', e3, g⟩ := put_got (by omega) (by omega) h2 dok (by omega)
  have e3 : f__law_put_right [.c (r.length + 1 + 2), .c (r.length + 4 + 2), .d (.tuple [.int v, .int w])] (p2 :: (r ++ t)) = .ok (.d (.bool true)) (p2 :: r') := e3
  refine ⟨p2 :: r', ?_, FsK.got hp2 hz hl g⟩
  simp [ePut, e2D, draw_eq, e1, e2, e3]
theorem put0_ok (h : FsK r n i B m) (hi : i < 50000) : ∃ m', ePut (cTup (cCons (cC (.int 0)) cNil)) ⟨S6 r n y4 y5, m⟩ = .ok (.d (.bool true)) ⟨S6 r n y4 y5, m'⟩ ∧ FsK r n (i + 1) B m' := by
  obtain ⟨p, t, z, ly, ps, rfl, hp, hw, hz, hl⟩ := h.ex
  have n0 := hw.n0
  have dok : DrawOk n [0] := ⟨by simp, fun b hb => by
    have : b = 0 := by simpa using hb
    subst this
    exact ⟨Int.le_refl _, by omega⟩, by simp⟩
  obtain ⟨r', e3, g⟩ := put_got (by omega) (by omega) hw dok (by omega)
  have e3 : f__law_put_right [.c (r.length + 1 + 2), .c (r.length + 4 + 2), .d (.tuple [.int 0])] (p :: (r ++ t)) = .ok (.d (.bool true)) (p :: r') := e3
  refine ⟨p :: r', ?_, FsK.got hp hz hl g⟩
  simp [ePut, e3]
theorem leave_fs (h : FsK r n i B m) (hi : i < 50000) (d : D) : ∃ m', f__law_leave_right [.c (r.length + 1 + 2), .c (r.length + 4 + 2), .d d] m = .ok (.d (.bool true)) m' ∧ FsK r n (i + 1) B m' := by
  obtain ⟨p, t, z, ly, ps, rfl, hp, hw, hz, hl⟩ := h.ex
  obtain ⟨r', e3, g⟩ := leave_got (by omega) (by omega) hw d (by omega)
  exact ⟨p :: r', e3, FsK.got hp hz hl g⟩
theorem back_fs (h : FsK r n i B m) (hi : i < 50000) : ∃ m', eBack ⟨S6 r n y4 y5, m⟩ = .ok (.d (.bool true)) ⟨S6 r n y4 y5, m'⟩ ∧ FsK r n i B m' := by
  obtain ⟨p, t, z, ly, ps, rfl, hp, hw, hz, hl⟩ := h.ex
  obtain ⟨r', e3, o, ly', ps', g, hg⟩ := back_got (by omega) (by omega) hw
  obtain ⟨t', rfl⟩ := off_tail o
  refine ⟨p :: (r ++ t'), ?_, ⟨p, t', z, ly', ps', rfl, hp, g, hz, by omega⟩⟩
  simp [eBack, e3]
theorem shown_fs (h : FsK r n i B m) : eShown ⟨S6 r n y4 y5, m⟩ = .ok (.d (.bool true)) ⟨S6 r n y4 y5, m⟩ := by
  obtain ⟨p, t, z, ly, ps, rfl, hp, hw, hz, hl⟩ := h.ex
  have e3 := shown_right_ok hw
  simp [eShown, e3]
/-- both just made -/
def cDW (c : CE) : CE := (cDispW ["boxes", "lying", "known", "past"] (nConsK c (nConsK cNewK (nConsK (cC (.int 0)) (nConsK (cLst cNil) nNil)))))
theorem dw_ok {c : CE} {v : List Sl} {m : List Cell} (h : c ⟨v, m⟩ = .ok (.d (.int n)) ⟨v, m⟩) : cDW c ⟨v, m⟩ = .ok (.ref (m.length + 2)) ⟨v, m ++ [.k [], .l [], .g (.w (wF n m.length (m.length + 1) 0))]⟩ := by
  have nd : (["boxes", "lying", "known", "past"] : List Str).Nodup := by decide +kernel
  have l1 : (m ++ [Cell.k []]).length = m.length + 1 := by simp
  have l2 : (m ++ [Cell.k []] ++ [Cell.l []]).length = m.length + 2 := by simp
  have e : nConsK c (nConsK cNewK (nConsK (cC (.int 0)) (nConsK (cLst cNil) nNil))) ⟨v, m⟩ = .ok [.d (.int n), .c m.length, .d (.int 0), .c (m.length + 1)] ⟨v, m ++ [Cell.k []] ++ [Cell.l []]⟩ := by
    unfold nConsK
    rw [h, bind_ok]
    dsimp only
    show (((cNewK ⟨v, m⟩).bind _).bind _) = _
    unfold cNewK
    rw [bind_ok]
    dsimp only
    rw [cC_s, bind_ok]
    dsimp only
    rw [cLst_s, cNil_s, bind_ok, kLst_s, bind_ok]
    dsimp only
    unfold nNil
    rw [bind_ok, bind_ok, bind_ok, bind_ok, l1]
  unfold cDW cDispW
  rw [e, bind_ok, if_pos ⟨nd, rfl⟩]
  dsimp only
  rw [l2, List.append_assoc, List.append_assoc]
  rfl
theorem new_pw {m : List Cell} (n0 : 1 ≤ n) (n6 : n ≤ 6) : PW ((m ++ [.k [], .l [], .g (.o "Room" (roomF (.int n) m.length (m.length + 1) 0))]) ++ [.k [], .l [], .g (.w (wF n (m.length + 3) (m.length + 3 + 1) 0))]) m.length (m.length + 3) n 0 [] [] := by
  have l : (m ++ [Cell.k [], .l [], .g (.o "Room" (roomF (.int n) m.length (m.length + 1) 0))]).length = m.length + 3 := by simp
  refine ⟨mk_room.app _, ⟨?_, ?_, ?_⟩, .nil, n0, n6, Int.le_refl _, by decide, .inl (Nat.le_refl _)⟩
  · rw [List.getElem?_append_right (by rw [l]; omega), l, Nat.add_sub_cancel_left]
    rfl
  · rw [List.getElem?_append_right (by rw [l]; omega), l, Nat.sub_self]
    rfl
  · rw [List.getElem?_append_right (by rw [l]; omega), l, Nat.add_sub_cancel_left]
    rfl
end Vm
namespace Vm
open PySem L2
variable {r m : List Cell} {n i B : Nat} {y4 y5 : Sl}
theorem draw_fs (h : FsK r n i B m) (hB : B < 90000) {many : Int} (hm : 0 < many) (hm2 : many.natAbs.log2 < 9000) : ∃ v m', fDrawA [.c 0, .d (.int many)] m = .ok (.d (.int v)) m' ∧ FsK r n i (B + 1) m' ∧ 0 ≤ v ∧ v < many := by
  obtain ⟨p, t, z, ly, ps, rfl, hp, hw, hz, hl⟩ := h.ex
  obtain ⟨v, p1, e1, v0, v1, hp1⟩ := drawA B p (r ++ t) many hp (by omega) hm hm2
  exact ⟨v, p1 :: (r ++ t), e1, ⟨p1, t, z, ly, ps, rfl, hp1, hw.head (by omega) (by omega), hz, hl⟩, v0, v1⟩
theorem FsK.mono {j C : Nat} (h : FsK r n i B m) (hi : i ≤ j) (hB : B ≤ C) : FsK r n j C m := by
  obtain ⟨p, t, z, ly, ps, rfl, hp, hw, hz, hl⟩ := h.ex
  exact ⟨p, t, z, ly, ps, rfl, hp.mono hB, hw, by omega, by omega⟩
theorem FsK.take (h : FsK r n i B m) (p : Cell) : ∃ p', m.take (p :: r).length = p' :: r ∧ IsPen B p' := by
  obtain ⟨p', t, z, ly, ps, rfl, hp, hw, hz, hl⟩ := h.ex
  exact ⟨p', by simp, hp⟩
theorem start_fs {p : Cell} (hp : IsPen B p) (n0 : 1 ≤ n) (n6 : n ≤ 6) : ∃ m', (cSeq (cSetM 2 (cMkRoom (lCons (cVar 1) lNil))) (cSetM 3 (cDW (cVar 1)))) ⟨[.c 0, .d (.int n), .u, .u, .u, .u], p :: r⟩ = .nx ⟨S6 r n .u .u, m'⟩ ∧ FsK r n 0 B m' := by
  have mk : cMkRoom (lCons (cVar 1) lNil) ⟨[.c 0, .d (.int n), .u, .u, .u, .u], p :: r⟩ = .ok (.ref ((p :: r).length + 2)) ⟨[.c 0, .d (.int n), .u, .u, .u, .u], (p :: r) ++ [.k [], .l [], .g (.o "Room" (roomF (.int n) (p :: r).length ((p :: r).length + 1) 0))]⟩ := cMkRoom_ok (s1 := ⟨[.c 0, .d (.int n), .u, .u, .u, .u], p :: r⟩) (by simp)
  have l : (p :: r).length = r.length + 1 := rfl
  have l2 : ((p :: r) ++ [Cell.k [], .l [], .g (.o "Room" (roomF (.int n) (p :: r).length ((p :: r).length + 1) 0))]).length = r.length + 4 := by simp
  have dw := dw_ok (n := n) (c := cVar 1) (v := [.c 0, .d (.int n), .c (r.length + 1 + 2), .u, .u, .u]) (m := (p :: r) ++ [.k [], .l [], .g (.o "Room" (roomF (.int n) (p :: r).length ((p :: r).length + 1) 0))]) (by simp)
  have pw := new_pw (m := p :: r) n0 n6
  rw [l2] at dw
  rw [l] at mk pw dw
  refine ⟨_, ?_, ⟨p, [.k [], .l [], .g (.o "Room" (roomF (.int n) (r.length + 1) (r.length + 1 + 1) 0))] ++ [.k [], .l [], .g (.w (wF n (r.length + 1 + 3) (r.length + 1 + 3 + 1) 0))], 0, [], [], by rw [← List.append_assoc], hp, ?_, Int.le_refl _, Nat.le_refl _⟩⟩
  · have s1 : cSetM 2 (cMkRoom (lCons (cVar 1) lNil)) ⟨[.c 0, .d (.int n), .u, .u, .u, .u], p :: r⟩ = .nx ⟨[.c 0, .d (.int n), .c (r.length + 1 + 2), .u, .u, .u], (p :: r) ++ [.k [], .l [], .g (.o "Room" (roomF (.int n) (r.length + 1) (r.length + 1 + 1) 0))]⟩ := by
      rw [cSetM_s, mk]
      rfl
    rw [cSeq_s, s1, then_nx, cSetM_s, dw]
    rfl
  · exact pw
theorem full_right_ok {p : Cell} (hp : IsPen B p) (hB : B < 50000) (n0 : 1 ≤ n) (n6 : n ≤ 6) : ∃ p', f__law_full_right [.c 0, .d (.int n)] (p :: r) = .ok (.d (.bool true)) (p' :: r) ∧ IsPen (B + 200) p' := by
  obtain ⟨m0, e0, h0⟩ := start_fs (r := r) hp n0 n6
  obtain ⟨s', e1, y4, m1, rfl, h1⟩ := forL_inv (tg := tgN 4) (body := (cIfS (tNot' (cTru (ePut e2D))) (cRet (cC (.bool false))) cNx)) (ds := rangeD 0 61) (fun i s => ∃ (y4 : Sl) (m : List Cell), s = ⟨S6 r n y4 .u, m⟩ ∧ FsK r n i (B + 2 * i) m)
    (s := ⟨S6 r n .u .u, m0⟩) ⟨_, _, rfl, h0.mono (Nat.le_refl _) (by omega)⟩ fun i s d hd hi => by
      obtain ⟨y4, m, rfl, h⟩ := hi
      have hil := (rangeD_lt hd).1
      obtain ⟨m', e, h'⟩ := put2_ok (y4 := .d d) (y5 := .u) h (by omega) (by omega)
      exact ⟨⟨S6 r n (.d d) .u, m⟩, ⟨S6 r n (.d d) .u, m'⟩, rfl, .inl (by simp [e]), .d d, m', rfl, h'.mono (Nat.le_refl _) (by omega)⟩
  rw [rangeD_len] at h1
  obtain ⟨v, m2, e2, h2, v0, v1⟩ := draw_fs h1 (by omega) (many := 60) (by decide) (by decide)
  obtain ⟨m3, e3, h3⟩ := leave_fs h2 (by omega) (.int v)
  obtain ⟨m4, e4, h4⟩ := put0_ok (y4 := y4) (y5 := .d (.int v)) h3 (by omega)
  obtain ⟨m5, e5, h5⟩ := put0_ok (y4 := y4) (y5 := .d (.int v)) h4 (by omega)
  obtain ⟨m6, e6, h6⟩ := back_fs (y4 := y4) (y5 := .d (.int v)) h5 (by omega)
  obtain ⟨m7, e7, h7⟩ := back_fs (y4 := y4) (y5 := .d (.int v)) h6 (by omega)
  have e8 := shown_fs (y4 := y4) (y5 := .d (.int v)) h7
  obtain ⟨m9, e9, h9⟩ := put0_ok (y4 := y4) (y5 := .d (.int v)) h7 (by omega)
  obtain ⟨p', tk, hp'⟩ := h9.take p
  have hc : c__law_full_right = (cSeq (cSetM 2 (cMkRoom (lCons (cVar 1) lNil))) (cSeq (cSetM 3 (cDW (cVar 1))) (cSeq (cFor (ciR1 (cC (.int 61))) (tgN 4) (cIfS (tNot' (cTru (ePut e2D))) (cRet (cC (.bool false))) cNx)) (cSeq (cSet 5 (cCall f__law_draw (lCons (cVar 0) (lCons (cC (.int 60)) lNil)))) (cSeq (cIfS (tOr' (tNot' (cTru (eLeave (cVar 5)))) (tNot' (cTru (ePut (cTup (cCons (cC (.int 0)) cNil)))))) (cRet (cC (.bool false))) cNx) (cSeq (cIfS (tOr' (tNot' (cTru (ePut (cTup (cCons (cC (.int 0)) cNil))))) (tOr' (tNot' (cTru eBack)) (tNot' (cTru eBack)))) (cRet (cC (.bool false))) cNx) (cRet (cAnd eShown (ePut (cTup (cCons (cC (.int 0)) cNil))))))))))) := rfl
  have e3 : eLeave (cVar 5) ⟨S6 r n y4 (.d (.int v)), m2⟩ = .ok (.d (.bool true)) ⟨S6 r n y4 (.d (.int v)), m3⟩ := by
    simp [eLeave, e3]
  have r6 : ∀ s, ciR1 (cC (.int 61)) s = .ok (rangeD 0 61) s := fun s => ciR1_c (by decide) (by decide)
  have q3 : cSet 5 (cCall f__law_draw (lCons (cVar 0) (lCons (cC (.int 60)) lNil))) ⟨S6 r n y4 .u, m1⟩ = .nx ⟨S6 r n y4 (.d (.int v)), m2⟩ := by
    simp [draw_eq, e2]
  have q4 : (cIfS (tOr' (tNot' (cTru (eLeave (cVar 5)))) (tNot' (cTru (ePut (cTup (cCons (cC (.int 0)) cNil)))))) (cRet (cC (.bool false))) cNx) ⟨S6 r n y4 (.d (.int v)), m2⟩ = .nx ⟨S6 r n y4 (.d (.int v)), m4⟩ := by
    simp [e3, e4]
  have q5 : (cIfS (tOr' (tNot' (cTru (ePut (cTup (cCons (cC (.int 0)) cNil))))) (tOr' (tNot' (cTru eBack)) (tNot' (cTru eBack)))) (cRet (cC (.bool false))) cNx) ⟨S6 r n y4 (.d (.int v)), m4⟩ = .nx ⟨S6 r n y4 (.d (.int v)), m7⟩ := by
    simp [e5, e6, e7]
  have q6 : cRet (cAnd eShown (ePut (cTup (cCons (cC (.int 0)) cNil)))) ⟨S6 r n y4 (.d (.int v)), m7⟩ = .rt (.d (.bool true)) ⟨S6 r n y4 (.d (.int v)), m9⟩ := by
    simp [e8, e9]
  have e0' : ∀ cr : CS, (cSeq (cSetM 2 (cMkRoom (lCons (cVar 1) lNil))) (cSeq (cSetM 3 (cDW (cVar 1))) cr)) ⟨[.c 0, .d (.int n), .u, .u, .u, .u], p :: r⟩ = cr ⟨S6 r n .u .u, m0⟩ := fun cr => by
    rw [cSeq_s] at e0 ⊢
    cases q : cSetM 2 (cMkRoom (lCons (cVar 1) lNil)) ⟨[.c 0, .d (.int n), .u, .u, .u, .u], p :: r⟩ with
    | nx s1 =>
      rw [q, then_nx] at e0
      rw [then_nx, cSeq_s, e0, then_nx]
    | bad => rw [q] at e0; cases e0
    | rt _ _ => rw [q] at e0; cases e0
    | bk _ => rw [q] at e0; cases e0
    | ct _ => rw [q] at e0; cases e0
    | ex _ _ => rw [q] at e0; cases e0
  have go : c__law_full_right ⟨[.c 0, .d (.int n), .u, .u, .u, .u], p :: r⟩ = .rt (.d (.bool true)) ⟨S6 r n y4 (.d (.int v)), m9⟩ := by
    rw [hc, e0', cSeq_s, cFor_s, r6, out_ok, e1, then_nx, cSeq_s, q3, then_nx, cSeq_s, q4, then_nx, cSeq_s, q5, then_nx, q6]
  refine ⟨p', ?_, hp'.mono (by omega)⟩
  unfold f__law_full_right
  rw [runF_s]
  show fin (p :: r) (c__law_full_right ⟨[.c 0, .d (.int n), .u, .u, .u, .u], p :: r⟩) = _
  rw [go, fin_d, tk]
end Vm
namespace Vm
open PySem L2
variable {r m : List Cell} {n i B : Nat} {y4 y5 : Sl}
theorem ne_deedsS (ps : List Deed) : opNe (.d (.list (ps.map deedS))) (.d (.list [])) = some (.d (.bool (!(ps.map deedS).isEmpty))) := opNe_nilD fun d hd => by
  obtain ⟨p, _, rfl⟩ := List.mem_map.mp hd
  obtain ⟨c, b, x⟩ := p
  refine ⟨rfl, ?_⟩
  show PyData.depth (.tuple [.str _, .int b, .int x]) ≤ 59
  simp [PyData.depth, PyData.depthAll]
def cSome : CE := (cOp1 opSorted (cOp1 opListK (cItW "lying" (cVar 3))))
theorem some_ok (h : FsK r n i B m) : ∃ ks : List Int, cSome ⟨S6 r n y4 y5, m⟩ = .ok (.new (.l (ks.map PyData.int))) ⟨S6 r n y4 y5, m⟩ ∧ ks.length ≤ 60 := by
  obtain ⟨p, t, z, ly, ps, rfl, hp, hw, hz, hl⟩ := h.ex
  refine ⟨sortA (ly.map (·.1)), ?_, by rw [(sortA_perm _).length_eq, List.length_map]; exact hw.h.few⟩
  have lK : opListK (.c (.k (lyK ly))) = some (.new (.l ((ly.map (·.1)).map PyData.int))) := by
    show some (Rv.new (.l ((lyK ly).map fun p => kD p.1))) = _
    unfold lyK
    rw [List.map_map, List.map_map]
    rfl
  have wl := w_lying hw.w (i := 3) (v := S6 r n y4 y5) rfl
  have hL := hw.w.l
  have so : opSorted (.d (.list ((ly.map (·.1)).map PyData.int))) = some (.new (.l ((sortA (ly.map (·.1))).map PyData.int))) := opSorted_s
  generalize (ly.map (·.1)).map PyData.int = KL at lK so
  generalize (sortA (ly.map (·.1))).map PyData.int = SL at so
  unfold cSome
  simp [wl, hL, lK, so]
def cNine : CS := (cIfS (tAnd' (cB (cOp2 opGt (cOp1 opLen (cVar 5)) (cC (.int 9)))) (tNot' (cTru (eLeave (cOp2 opIx (cVar 5) (cCall f__law_draw (lCons (cVar 0) (lCons (cOp1 opLen (cVar 5)) lNil)))))))) (cRet (cC (.bool false))) cNx)
theorem nine_ok (h : FsK r n i B m) (hi : i < 50000) (hB : B < 80000) {ks : List Int} (hk : ks.length ≤ 60) : ∃ m', cNine ⟨S6 r n y4 (.d (.list (ks.map PyData.int))), m⟩ = .nx ⟨S6 r n y4 (.d (.list (ks.map PyData.int))), m'⟩ ∧ FsK r n (i + 1) (B + 1) m' := by
  by_cases h9 : 9 < ks.length
  · obtain ⟨v, m2, e2, h2, v0, v1⟩ := draw_fs h (by omega) (many := (ks.length : Int)) (by omega) (log2_many (by omega) (by omega))
    have ix : opIx (.d (.list (ks.map PyData.int))) (.d (.int v)) = some (.d (.int (ks.getD v.toNat 0))) := at_box v0 v1
    obtain ⟨m3, e3, h3⟩ := leave_fs h2 hi (.int (ks.getD v.toNat 0))
    refine ⟨m3, ?_, h3⟩
    have g : (9 : Int) < ks.length := by omega
    unfold cNine eLeave
    simp [-List.getD_eq_getElem?_getD, g, draw_eq, e2, ix, e3]
  · refine ⟨m, ?_, h.mono (by omega) (by omega)⟩
    have g : ¬ (9 : Int) < ks.length := by omega
    unfold cNine
    simp [g]
def cLb : CS := (cSeq (cIfS (tNot' (cTru (ePut e2D))) (cRet (cC (.bool false))) cNx) (cSeq (cSet 5 cSome) cNine))
theorem lb_ok (h : FsK r n i B m) (hi : i < 40000) (hB : B < 60000) : ∃ z5 m', cLb ⟨S6 r n y4 y5, m⟩ = .nx ⟨S6 r n y4 z5, m'⟩ ∧ FsK r n (i + 2) (B + 3) m' := by
  obtain ⟨m1, e1, h1⟩ := put2_ok (y4 := y4) (y5 := y5) h (by omega) (by omega)
  obtain ⟨ks, e2, hk⟩ := some_ok (y4 := y4) (y5 := y5) h1
  obtain ⟨m3, e3, h3⟩ := nine_ok (y4 := y4) h1 (by omega) (by omega) hk
  refine ⟨.d (.list (ks.map PyData.int)), m3, ?_, h3⟩
  unfold cLb
  have q1 : cIfS (tNot' (cTru (ePut e2D))) (cRet (cC (.bool false))) cNx ⟨S6 r n y4 y5, m⟩ = .nx ⟨S6 r n y4 y5, m1⟩ := by
    simp [e1]
  have q2 : cSet 5 cSome ⟨S6 r n y4 y5, m1⟩ = .nx ⟨S6 r n y4 (.d (.list (ks.map PyData.int))), m1⟩ := by
    simp [e2]
  rw [cSeq_s, q1, then_nx, cSeq_s, q2, then_nx, e3]
def tPast : CT := (cB (cOp2 opNe (cItW "past" (cVar 3)) (cLst cNil)))
def cBkL : CS := (cIfS (tNot' (cTru eBack)) (cRet (cC (.bool false))) cNx)
theorem while_ok (h : FsK r n i B m) (hi : i < 50000) : ∃ m', cWh (fun _ => 1000000) tPast cBkL ⟨S6 r n y4 y5, m⟩ = .nx ⟨S6 r n y4 y5, m'⟩ ∧ FsK r n i B m' := by
  obtain ⟨p, t, z, ly, ps, hm, hp, hw, hz, hl⟩ := h.ex
  obtain ⟨s', e, m', rfl, h'⟩ := whL_inv (t := tPast) (b := cBkL) (fun k s => ∃ (m p : _) (t : List Cell) (z : Int) (ly : List (Int × Int)) (ps : List Deed), s = ⟨S6 r n y4 y5, m⟩ ∧ m = p :: (r ++ t) ∧ IsPen B p ∧ PW m (r.length + 1) (r.length + 4) n z ly ps ∧ z ≤ i ∧ ps.length = k ∧ k ≤ i)
    (fun s => ∃ m, s = ⟨S6 r n y4 y5, m⟩ ∧ FsK r n i B m) (fun k s hI => by
      obtain ⟨m, p, t, z, ly, ps, rfl, rfl, hp, hw, hz, hk, hki⟩ := hI
      have wp := w_past hw.w (i := 3) (v := S6 r n y4 y5) rfl
      have hP := hw.w.p
      have ne := ne_deedsS ps
      by_cases h0 : k = 0
      · have hps : ps = [] := List.eq_nil_of_length_eq_zero (by omega)
        subst hps
        have ne : opNe (.d (.list [])) (.d (.list [])) = some (.d (.bool false)) := ne
        have hP : (p :: (r ++ t))[r.length + 4 + 1]? = some (.l []) := hP
        refine .inl ⟨⟨S6 r n y4 y5, p :: (r ++ t)⟩, ?_, _, rfl, ⟨p, t, z, ly, [], rfl, hp, hw, hz, by simp⟩⟩
        generalize p :: (r ++ t) = mm at *
        simp [tPast, wp, hP, ne]
      · obtain ⟨r', e3, o, ly', ps', g, hg⟩ := back_got (by omega) (by omega) hw
        obtain ⟨t', rfl⟩ := off_tail o
        have he : (ps.map deedS).isEmpty = false := by
          cases ps with
          | nil => exact absurd hk.symm h0
          | cons _ _ => rfl
        rw [he] at ne
        refine .inr ⟨⟨S6 r n y4 y5, p :: (r ++ t)⟩, ⟨S6 r n y4 y5, p :: (r ++ t')⟩, ps'.length, ?_, .inl ?_, by omega, ⟨_, p, t', z, ly', ps', rfl, rfl, hp, g, hz, rfl, by omega⟩⟩
        · generalize p :: (r ++ t) = mm at *
          simp [tPast, wp, hP, ne]
        · simp [cBkL, eBack, e3]) 1000000 ps.length ⟨S6 r n y4 y5, m⟩ (by omega) ⟨m, p, t, z, ly, ps, rfl, hm, hp, hw, hz, rfl, hl⟩
  exact ⟨m', e, h'⟩
theorem long_right_ok {p : Cell} (hp : IsPen B p) (hB : B < 50000) (n0 : 1 ≤ n) (n6 : n ≤ 6) : ∃ p', f__law_long_right [.c 0, .d (.int n)] (p :: r) = .ok (.d (.bool true)) (p' :: r) ∧ IsPen (B + 400) p' := by
  obtain ⟨m0, e0, h0⟩ := start_fs (r := r) hp n0 n6
  obtain ⟨s', e1, y4, y5, m1, rfl, h1⟩ := forL_inv (tg := tgN 4) (body := cLb) (ds := rangeD 0 100) (fun i s => ∃ (y4 y5 : Sl) (m : List Cell), s = ⟨S6 r n y4 y5, m⟩ ∧ FsK r n (2 * i) (B + 3 * i) m)
    (s := ⟨S6 r n .u .u, m0⟩) ⟨_, _, _, rfl, h0.mono (Nat.le_refl _) (by omega)⟩ fun i s d hd hi => by
      obtain ⟨y4, y5, m, rfl, h⟩ := hi
      have hil := (rangeD_lt hd).1
      obtain ⟨z5, m', e, h'⟩ := lb_ok (y4 := .d d) (y5 := y5) h (by omega) (by omega)
      exact ⟨⟨S6 r n (.d d) y5, m⟩, ⟨S6 r n (.d d) z5, m'⟩, rfl, .inl e, .d d, z5, m', rfl, h'.mono (by omega) (by omega)⟩
  rw [rangeD_len] at h1
  obtain ⟨m2, e2, h2⟩ := while_ok (y4 := y4) (y5 := y5) h1 (by omega)
  have e3 := shown_fs (y4 := y4) (y5 := y5) h2
  obtain ⟨m4, e4, h4⟩ := back_fs (y4 := y4) (y5 := y5) h2 (by omega)
  obtain ⟨m5, e5, h5⟩ := put0_ok (y4 := y4) (y5 := y5) h4 (by omega)
  obtain ⟨p', tk, hp'⟩ := h5.take p
  have hc : c__law_long_right = (cSeq (cSetM 2 (cMkRoom (lCons (cVar 1) lNil))) (cSeq (cSetM 3 (cDW (cVar 1))) (cSeq (cFor (ciR1 (cC (.int 100))) (tgN 4) cLb) (cSeq (cWh (fun _ => 1000000) tPast cBkL) (cSeq (cIfS (tOr' (tNot' (cTru eShown)) (tNot' (cTru eBack))) (cRet (cC (.bool false))) cNx) (cRet (ePut (cTup (cCons (cC (.int 0)) cNil))))))))) := rfl
  have r6 : ∀ s, ciR1 (cC (.int 100)) s = .ok (rangeD 0 100) s := fun s => ciR1_c (by decide) (by decide)
  have q5 : (cIfS (tOr' (tNot' (cTru eShown)) (tNot' (cTru eBack))) (cRet (cC (.bool false))) cNx) ⟨S6 r n y4 y5, m2⟩ = .nx ⟨S6 r n y4 y5, m4⟩ := by
    simp [e3, e4]
  have q6 : cRet (ePut (cTup (cCons (cC (.int 0)) cNil))) ⟨S6 r n y4 y5, m4⟩ = .rt (.d (.bool true)) ⟨S6 r n y4 y5, m5⟩ := by
    simp [e5]
  have e0' : ∀ cr : CS, (cSeq (cSetM 2 (cMkRoom (lCons (cVar 1) lNil))) (cSeq (cSetM 3 (cDW (cVar 1))) cr)) ⟨[.c 0, .d (.int n), .u, .u, .u, .u], p :: r⟩ = cr ⟨S6 r n .u .u, m0⟩ := fun cr => by
    rw [cSeq_s] at e0 ⊢
    cases q : cSetM 2 (cMkRoom (lCons (cVar 1) lNil)) ⟨[.c 0, .d (.int n), .u, .u, .u, .u], p :: r⟩ with
    | nx s1 =>
      rw [q, then_nx] at e0
      rw [then_nx, cSeq_s, e0, then_nx]
    | bad => rw [q] at e0; cases e0
    | rt _ _ => rw [q] at e0; cases e0
    | bk _ => rw [q] at e0; cases e0
    | ct _ => rw [q] at e0; cases e0
    | ex _ _ => rw [q] at e0; cases e0
  have go : c__law_long_right ⟨[.c 0, .d (.int n), .u, .u, .u, .u], p :: r⟩ = .rt (.d (.bool true)) ⟨S6 r n y4 y5, m5⟩ := by
    rw [hc, e0', cSeq_s, cFor_s, r6, out_ok, e1, then_nx, cSeq_s, e2, then_nx, cSeq_s, q5, then_nx, q6]
  refine ⟨p', ?_, hp'.mono (by omega)⟩
  unfold f__law_long_right
  rw [runF_s]
  show fin (p :: r) (c__law_long_right ⟨[.c 0, .d (.int n), .u, .u, .u, .u], p :: r⟩) = _
  rw [go, fin_d, tk]
end Vm
namespace Vm
open PySem L2
abbrev TRooms : Sl := .t false [.p [.c 3, .c 6], .p [.c 9, .c 12]]
abbrev S10 (X : D) (f : D) (y4 y5 y6 y7 y8 y9 : Sl) : List Sl := [.d X, .c 0, .d f, TRooms, y4, y5, y6, y7, y8, y9]
/-- both rooms and both worlds -/
structure W2 (i B : Nat) (m : List Cell) : Prop where
  ex : ∃ p r n1 z1 ly1 ps1 n2 z2 ly2 ps2, m = p :: r ∧ IsPen B p ∧ PW m 1 4 n1 z1 ly1 ps1 ∧ PW m 7 10 n2 z2 ly2 ps2 ∧ z1 ≤ i ∧ ps1.length ≤ i ∧ z2 ≤ i ∧ ps2.length ≤ i
theorem W2.mono {i j B C : Nat} {m : List Cell} (h : W2 i B m) (hi : i ≤ j) (hB : B ≤ C) : W2 j C m := by
  obtain ⟨p, r, n1, z1, ly1, ps1, n2, z2, ly2, ps2, e, hp, h1, h2, a1, a2, a3, a4⟩ := h.ex
  exact ⟨p, r, n1, z1, ly1, ps1, n2, z2, ly2, ps2, e, hp.mono hB, h1, h2, by omega, by omega, by omega, by omega⟩
def cNew (c : CE) : CE := (cTupN (nCons (cMkRoom (lCons c lNil)) (nCons (cDW c) nNil)))
def r3C (n L : Nat) : List Cell := [.k [], .l [], .g (.o "Room" (roomF (.int n) L (L + 1) 0))]
def w3C (n L : Nat) : List Cell := [.k [], .l [], .g (.w (wF n L (L + 1) 0))]
theorem new_ok {c : CE} {v : List Sl} {n : Nat} (h : ∀ m, c ⟨v, m⟩ = .ok (.d (.int n)) ⟨v, m⟩) (m : List Cell) : cNew c ⟨v, m⟩ = .ok (.t true [.c (m.length + 2), .c (m.length + 3 + 2)]) ⟨v, m ++ r3C n m.length ++ w3C n (m.length + 3)⟩ := by
  have mk : cMkRoom (lCons c lNil) ⟨v, m⟩ = .ok (.ref (m.length + 2)) ⟨v, m ++ r3C n m.length⟩ := cMkRoom_ok (s1 := ⟨v, m⟩) (by simp [h])
  have l : (m ++ r3C n m.length).length = m.length + 3 := by simp [r3C]
  have dw := dw_ok (n := n) (c := c) (v := v) (m := m ++ r3C n m.length) (h _)
  rw [l] at dw
  have dw : cDW c ⟨v, m ++ r3C n m.length⟩ = .ok (.ref (m.length + 3 + 2)) ⟨v, m ++ r3C n m.length ++ w3C n (m.length + 3)⟩ := dw
  have nn : ∀ s : S, nNil s = .ok [] s := fun _ => rfl
  unfold cNew
  simp [mk, dw, nn]
theorem grP_cons {i jj : Nat} {tg : Tg} {e1 el : CE} {d x : D} {ds : List D} {acc es : List El} {us : List E0} {s s1 s2 s3 : S} (h1 : tg d s = some s1) (h2 : cv e1 s1 = .ok (.d x) s2) (h3 : el ⟨s2.v.set jj (.d x), s2.m⟩ = .ok (.t true es) s3) (h4 : e0s es = some us) : grP i jj tg e1 el (d :: ds) acc s = grP i jj tg e1 el ds (acc ++ [.p us]) s3 := by
  rw [grP, h1]
  dsimp only
  rw [h2]
  dsimp only
  rw [h3]
  dsimp only
  rw [h4]
theorem rooms_ok {B : Nat} {p : Cell} {X f : D} (hp : IsPen B p) (hB : B < 50000) : ∃ y4 y5 m', cGrowP 3 5 (cC (.int 2)) (tgN 4) (cOp2 opAdd (cC (.int 1)) (cCall f__law_draw (lCons (cVar 1) (lCons (cC (.int 6)) lNil)))) (cNew (cVar 5)) ⟨[.d X, .c 0, .d f, .u, .u, .u, .u, .u, .u, .u], [p]⟩ = .nx ⟨S10 X f y4 y5 .u .u .u .u, m'⟩ ∧ W2 0 (B + 2) m' := by
  obtain ⟨v, p1, e1, v0, v1, hp1⟩ := drawA B p [] 6 hp (by omega) (by decide) (by decide)
  obtain ⟨n1, hn1⟩ : ∃ n : Nat, 1 + v = (n : Int) := ⟨(1 + v).toNat, by omega⟩
  obtain ⟨w, p2, e2, w0, w1, hp2⟩ := drawA _ p1 (r3C n1 1 ++ w3C n1 4) 6 hp1 (by omega) (by decide) (by decide)
  obtain ⟨n2, hn2⟩ : ∃ n : Nat, 1 + w = (n : Int) := ⟨(1 + w).toNat, by omega⟩
  have k1 := new_ok (n := n1) (c := cVar 5) (v := [.d X, .c 0, .d f, .u, .d (.int 0), .d (.int n1), .u, .u, .u, .u]) (fun _ => by simp) [p1]
  have k2 := new_ok (n := n2) (c := cVar 5) (v := [.d X, .c 0, .d f, .u, .d (.int 1), .d (.int n2), .u, .u, .u, .u]) (fun _ => by simp) (p2 :: (r3C n1 1 ++ w3C n1 4))
  have P1 := new_pw (n := n1) (m := [p2]) (by omega) (by omega)
  have P2 := new_pw (n := n2) (m := p2 :: (r3C n1 1 ++ w3C n1 4)) (by omega) (by omega)
  have P1 : PW ([p2] ++ r3C n1 1 ++ w3C n1 4) 1 4 n1 0 [] [] := P1
  have P2 : PW ((p2 :: (r3C n1 1 ++ w3C n1 4)) ++ r3C n2 7 ++ w3C n2 10) 7 10 n2 0 [] [] := P2
  refine ⟨.d (.int 1), .d (.int n2), (p2 :: (r3C n1 1 ++ w3C n1 4)) ++ r3C n2 7 ++ w3C n2 10, ?_, ⟨p2, (r3C n1 1 ++ w3C n1 4) ++ r3C n2 7 ++ w3C n2 10, n1, 0, [], [], n2, 0, [], [], rfl, hp2.mono (by omega), ?_, P2, Int.le_refl _, Nat.le_refl _, Int.le_refl _, Nat.le_refl _⟩⟩
  · have c1 : cv (cOp2 opAdd (cC (.int 1)) (cCall f__law_draw (lCons (cVar 1) (lCons (cC (.int 6)) lNil)))) ⟨[.d X, .c 0, .d f, .u, .d (.int 0), .u, .u, .u, .u, .u], [p]⟩ = .ok (.d (.int n1)) ⟨[.d X, .c 0, .d f, .u, .d (.int 0), .u, .u, .u, .u, .u], [p1]⟩ := by
      simp [draw_eq, e1, hn1]
    have c2 : cv (cOp2 opAdd (cC (.int 1)) (cCall f__law_draw (lCons (cVar 1) (lCons (cC (.int 6)) lNil)))) ⟨[.d X, .c 0, .d f, .u, .d (.int 1), .d (.int n1), .u, .u, .u, .u], p1 :: (r3C n1 1 ++ w3C n1 4)⟩ = .ok (.d (.int n2)) ⟨[.d X, .c 0, .d f, .u, .d (.int 1), .d (.int n1), .u, .u, .u, .u], p2 :: (r3C n1 1 ++ w3C n1 4)⟩ := by
      simp [draw_eq, e2, hn2]
    have k1 : cNew (cVar 5) ⟨[.d X, .c 0, .d f, .u, .d (.int 0), .d (.int n1), .u, .u, .u, .u], [p1]⟩ = .ok (.t true [.c 3, .c 6]) ⟨[.d X, .c 0, .d f, .u, .d (.int 0), .d (.int n1), .u, .u, .u, .u], p1 :: (r3C n1 1 ++ w3C n1 4)⟩ := k1
    have k2 : cNew (cVar 5) ⟨[.d X, .c 0, .d f, .u, .d (.int 1), .d (.int n2), .u, .u, .u, .u], p2 :: (r3C n1 1 ++ w3C n1 4)⟩ = .ok (.t true [.c 9, .c 12]) ⟨[.d X, .c 0, .d f, .u, .d (.int 1), .d (.int n2), .u, .u, .u, .u], (p2 :: (r3C n1 1 ++ w3C n1 4)) ++ r3C n2 7 ++ w3C n2 10⟩ := k2
    unfold cGrowP
    have c0 : cv (cC (.int 2)) ⟨[.d X, .c 0, .d f, .u, .u, .u, .u, .u, .u, .u], [p]⟩ = .ok (.d (.int 2)) ⟨[.d X, .c 0, .d f, .u, .u, .u, .u, .u, .u, .u], [p]⟩ := rfl
    show (match cv (cC (.int 2)) ⟨[.d X, .c 0, .d f, .u, .u, .u, .u, .u, .u, .u], [p]⟩ with
      | .ok (.d (.int n)) s1 => if small62 n = true ∧ (rangeD 0 n.toNat).length ≤ 16000000 ∧ 3 < s1.v.length then grP 3 5 (tgN 4) _ _ (rangeD 0 n.toNat) [] s1 else .bad
      | _ => .bad) = _
    rw [c0]
    dsimp only
    rw [if_pos ⟨by decide, by decide, by show 3 < 10; decide⟩]
    show grP 3 5 (tgN 4) _ _ [.int 0, .int 1] [] _ = _
    rw [grP_cons (s1 := ⟨[.d X, .c 0, .d f, .u, .d (.int 0), .u, .u, .u, .u, .u], [p]⟩) rfl c1 k1 rfl, grP_cons (s1 := ⟨[.d X, .c 0, .d f, .u, .d (.int 1), .d (.int n1), .u, .u, .u, .u], p1 :: (r3C n1 1 ++ w3C n1 4)⟩) rfl c2 k2 rfl]
    rfl
  · have e : (p2 :: (r3C n1 1 ++ w3C n1 4)) ++ r3C n2 7 ++ w3C n2 10 = ([p2] ++ r3C n1 1 ++ w3C n1 4) ++ (r3C n2 7 ++ w3C n2 10) := by simp
    rw [e]
    exact ⟨P1.r.app _, P1.w.app _, P1.h, P1.n0, P1.n6, P1.z0, P1.few, P1.ab⟩
theorem deed1 {i B : Nat} {m : List Cell} (h : W2 i B m) (hi : i < 50000) (hB : B < 60000) : ∃ m', f__law_deed_right [.c 0, .c 3, .c 6] m = .ok (.d (.bool true)) m' ∧ W2 (i + 1) (B + 10) m' := by
  obtain ⟨p, r, n1, z1, ly1, ps1, n2, z2, ly2, ps2, rfl, hp, h1, h2, a1, a2, a3, a4⟩ := h.ex
  obtain ⟨p', r', e, hp', g⟩ := deed_right_ok (a := 1) (b := 4) hp (by omega) (by decide) (by decide) h1 (by omega) (by omega)
  obtain ⟨z', ly', ps', g1, g2, g3⟩ := g.ex
  have h2' : PW (p' :: r) 7 10 n2 z2 ly2 ps2 := h2.head (by decide) (by decide)
  exact ⟨p' :: r', e, ⟨p', r', n1, z', ly', ps', n2, z2, ly2, ps2, rfl, hp', g1, h2'.off g.off (by decide) (by decide) (by decide) (by decide), by omega, by omega, by omega, by omega⟩⟩
theorem deed2 {i B : Nat} {m : List Cell} (h : W2 i B m) (hi : i < 50000) (hB : B < 60000) : ∃ m', f__law_deed_right [.c 0, .c 9, .c 12] m = .ok (.d (.bool true)) m' ∧ W2 (i + 1) (B + 10) m' := by
  obtain ⟨p, r, n1, z1, ly1, ps1, n2, z2, ly2, ps2, rfl, hp, h1, h2, a1, a2, a3, a4⟩ := h.ex
  obtain ⟨p', r', e, hp', g⟩ := deed_right_ok (a := 7) (b := 10) hp (by omega) (by decide) (by decide) h2 (by omega) (by omega)
  obtain ⟨z', ly', ps', g1, g2, g3⟩ := g.ex
  have h1' : PW (p' :: r) 1 4 n1 z1 ly1 ps1 := h1.head (by decide) (by decide)
  exact ⟨p' :: r', e, ⟨p', r', n1, z1, ly1, ps1, n2, z', ly', ps', rfl, hp', h1'.off g.off (by decide) (by decide) (by decide) (by decide), g1, by omega, by omega, by omega, by omega⟩⟩
theorem back1 {i B : Nat} {m : List Cell} (h : W2 i B m) : ∃ m', f__law_back_right [.c 3, .c 6] m = .ok (.d (.bool true)) m' ∧ W2 i B m' := by
  obtain ⟨p, r, n1, z1, ly1, ps1, n2, z2, ly2, ps2, rfl, hp, h1, h2, a1, a2, a3, a4⟩ := h.ex
  obtain ⟨r', e, o, ly', ps', g1, hg⟩ := back_got (a := 1) (b := 4) (by decide) (by decide) h1
  exact ⟨p :: r', e, ⟨p, r', n1, z1, ly', ps', n2, z2, ly2, ps2, rfl, hp, g1, h2.off o (by decide) (by decide) (by decide) (by decide), a1, by omega, a3, a4⟩⟩
theorem put1 {i B : Nat} {m : List Cell} (h : W2 i B m) (hi : i < 50000) : ∃ m', f__law_put_right [.c 3, .c 6, .d (.tuple [.int 0])] m = .ok (.d (.bool true)) m' ∧ W2 (i + 1) B m' := by
  obtain ⟨p, r, n1, z1, ly1, ps1, n2, z2, ly2, ps2, rfl, hp, h1, h2, a1, a2, a3, a4⟩ := h.ex
  have n0 := h1.n0
  have dok : DrawOk n1 [0] := ⟨by simp, fun b hb => by
    have : b = 0 := by simpa using hb
    subst this
    exact ⟨Int.le_refl _, by omega⟩, by simp⟩
  obtain ⟨r', e, g⟩ := put_got (a := 1) (b := 4) (by decide) (by decide) h1 dok (by omega)
  obtain ⟨z', ly', ps', g1, g2, g3⟩ := g.ex
  exact ⟨p :: r', e, ⟨p, r', n1, z', ly', ps', n2, z2, ly2, ps2, rfl, hp, g1, h2.off g.off (by decide) (by decide) (by decide) (by decide), by omega, by omega, by omega, by omega⟩⟩
def cTurnK : CS := (cSeq (cUnT 6 7 (cIxT (cVar 3) (cOp1 opInt (cOp2 opEq (cCall f__law_draw (lCons (cVar 1) (lCons (cC (.int 3)) lNil))) (cC (.int 0))))))
 (cSeq (cIfS (tNot' (cTru (cCall f__law_deed_right (lCons (cVar 1) (lCons (cVar 6) (lCons (cVar 7) lNil))))))
 (cRet (cC (.bool false)))
 cNx)
 (cIfS (tNot' (cTru (cOp1 opAll (cLcP [8, 9] (ciT (cVar 3)) 8 9 (cCall f__law_shown_right (lCons (cVar 8) (lCons (cVar 9) lNil)))))))
 (cRet (cC (.bool false)))
 cNx)))
theorem cUnTK {i j : Nat} {c : CE} {s s1 : S} {e1 e2 : El} (h : c s = .ok (.t true [e1, e2]) s1) : cUnT i j c s = .nx ⟨(s1.v.set i (elSl e1)).set j (elSl e2), s1.m⟩ := by
  unfold cUnT
  rw [cv_s, h]
  rfl
theorem turnK_ok {i B : Nat} {m : List Cell} {X f : D} {y4 y5 y6 y7 : Sl} (h : W2 i B m) (hi : i < 50000) (hB : B < 50000) : ∃ y6' y7' m', cTurnK ⟨S10 X f y4 y5 y6 y7 .u .u, m⟩ = .nx ⟨S10 X f y4 y5 y6' y7' .u .u, m'⟩ ∧ W2 (i + 1) (B + 11) m' := by
  obtain ⟨p, r, n1, z1, ly1, ps1, n2, z2, ly2, ps2, rfl, hp, h1, h2, a1, a2, a3, a4⟩ := h.ex
  obtain ⟨v, p1, e1, v0, v1, hp1⟩ := drawA B p r 3 hp (by omega) (by decide) (by decide)
  have hw : W2 i (B + 1) (p1 :: r) := ⟨p1, r, n1, z1, ly1, ps1, n2, z2, ly2, ps2, rfl, hp1, h1.head (by decide) (by decide), h2.head (by decide) (by decide), a1, a2, a3, a4⟩
  have all : ∀ (y6 y7 : Sl) (m : List Cell), W2 (i + 1) (B + 11) m → (cIfS (tNot' (cTru (cOp1 opAll (cLcP [8, 9] (ciT (cVar 3)) 8 9 (cCall f__law_shown_right (lCons (cVar 8) (lCons (cVar 9) lNil))))))) (cRet (cC (.bool false))) cNx) ⟨S10 X f y4 y5 y6 y7 .u .u, m⟩ = .nx ⟨S10 X f y4 y5 y6 y7 .u .u, m⟩ := fun y6 y7 m hm => by
    obtain ⟨p, r, n1, z1, ly1, ps1, n2, z2, ly2, ps2, rfl, hp, h1, h2, a1, a2, a3, a4⟩ := hm.ex
    have s1 : f__law_shown_right [.c 3, .c 6] (p :: r) = .ok (.d (.bool true)) (p :: r) := shown_right_ok h1
    have s2 : f__law_shown_right [.c 9, .c 12] (p :: r) = .ok (.d (.bool true)) (p :: r) := shown_right_ok h2
    generalize p :: r = mm at *
    have c1 : cv (cCall f__law_shown_right (lCons (cVar 8) (lCons (cVar 9) lNil))) ⟨S10 X f y4 y5 y6 y7 (.c 3) (.c 6), mm⟩ = .ok (.d (.bool true)) ⟨S10 X f y4 y5 y6 y7 (.c 3) (.c 6), mm⟩ := by
      simp [s1]
    have c2 : cv (cCall f__law_shown_right (lCons (cVar 8) (lCons (cVar 9) lNil))) ⟨S10 X f y4 y5 y6 y7 (.c 9) (.c 12), mm⟩ = .ok (.d (.bool true)) ⟨S10 X f y4 y5 y6 y7 (.c 9) (.c 12), mm⟩ := by
      simp [s2]
    have lc : cLcP [8, 9] (ciT (cVar 3)) 8 9 (cCall f__law_shown_right (lCons (cVar 8) (lCons (cVar 9) lNil))) ⟨S10 X f y4 y5 y6 y7 .u .u, mm⟩ = .ok (.new (.l [.bool true, .bool true])) ⟨S10 X f y4 y5 y6 y7 .u .u, mm⟩ := by
      have it : ciT (cVar 3) ⟨S10 X f y4 y5 y6 y7 .u .u, mm⟩ = .ok [.p [.c 3, .c 6], .p [.c 9, .c 12]] ⟨S10 X f y4 y5 y6 y7 .u .u, mm⟩ := rfl
      unfold cLcP
      rw [it, bind_ok, if_pos (by show 2 ≤ 16000000; decide)]
      unfold lcP
      show ((cv (cCall f__law_shown_right (lCons (cVar 8) (lCons (cVar 9) lNil))) ⟨S10 X f y4 y5 y6 y7 (.c 3) (.c 6), mm⟩).nx.bind _) = _
      rw [c1]
      show lcP [8, 9] _ 8 9 _ [.p [.c 9, .c 12]] [.bool true] mm = _
      unfold lcP
      show ((cv (cCall f__law_shown_right (lCons (cVar 8) (lCons (cVar 9) lNil))) ⟨S10 X f y4 y5 y6 y7 (.c 9) (.c 12), mm⟩).nx.bind _) = _
      rw [c2]
      rfl
    have oa : opAll (.d (.list [.bool true, .bool true])) = some (.d (.bool true)) := rfl
    simp [lc, oa]
  by_cases hv : v = 0
  · have q1 : cUnT 6 7 (cIxT (cVar 3) (cOp1 opInt (cOp2 opEq (cCall f__law_draw (lCons (cVar 1) (lCons (cC (.int 3)) lNil))) (cC (.int 0))))) ⟨S10 X f y4 y5 y6 y7 .u .u, p :: r⟩ = .nx ⟨S10 X f y4 y5 (.c 9) (.c 12) .u .u, p1 :: r⟩ := by
      have oi : opInt (.d (.bool true)) = some (.d (.int 1)) := rfl
      have ev : ∀ s : S, elV [.p [.c 3, .c 6], .p [.c 9, .c 12]] 1 s = .ok (.t true [.c 9, .c 12]) s := fun _ => rfl
      rw [cUnTK (s1 := ⟨S10 X f y4 y5 y6 y7 .u .u, p1 :: r⟩) (e1 := .c 9) (e2 := .c 12) (by simp [draw_eq, e1, hv, oi, ev])]
      rfl
    obtain ⟨m', e2, h'⟩ := deed2 hw hi (by omega)
    have h' : W2 (i + 1) (B + 11) m' := h'.mono (by omega) (by omega)
    refine ⟨.c 9, .c 12, m', ?_, h'⟩
    have q2 : (cIfS (tNot' (cTru (cCall f__law_deed_right (lCons (cVar 1) (lCons (cVar 6) (lCons (cVar 7) lNil)))))) (cRet (cC (.bool false))) cNx) ⟨S10 X f y4 y5 (.c 9) (.c 12) .u .u, p1 :: r⟩ = .nx ⟨S10 X f y4 y5 (.c 9) (.c 12) .u .u, m'⟩ := by
      simp [e2]
    have q3 := all (.c 9) (.c 12) m' h'
    unfold cTurnK
    rw [cSeq_s, q1, then_nx, cSeq_s, q2, then_nx, q3]
  · have q1 : cUnT 6 7 (cIxT (cVar 3) (cOp1 opInt (cOp2 opEq (cCall f__law_draw (lCons (cVar 1) (lCons (cC (.int 3)) lNil))) (cC (.int 0))))) ⟨S10 X f y4 y5 y6 y7 .u .u, p :: r⟩ = .nx ⟨S10 X f y4 y5 (.c 3) (.c 6) .u .u, p1 :: r⟩ := by
      have oi : opInt (.d (.bool false)) = some (.d (.int 0)) := rfl
      have ev : ∀ s : S, elV [.p [.c 3, .c 6], .p [.c 9, .c 12]] 0 s = .ok (.t true [.c 3, .c 6]) s := fun _ => rfl
      rw [cUnTK (s1 := ⟨S10 X f y4 y5 y6 y7 .u .u, p1 :: r⟩) (e1 := .c 3) (e2 := .c 6) (by simp [draw_eq, e1, hv, oi, ev])]
      rfl
    obtain ⟨m', e2, h'⟩ := deed1 hw hi (by omega)
    have h' : W2 (i + 1) (B + 11) m' := h'.mono (by omega) (by omega)
    refine ⟨.c 3, .c 6, m', ?_, h'⟩
    have q2 : (cIfS (tNot' (cTru (cCall f__law_deed_right (lCons (cVar 1) (lCons (cVar 6) (lCons (cVar 7) lNil)))))) (cRet (cC (.bool false))) cNx) ⟨S10 X f y4 y5 (.c 3) (.c 6) .u .u, p1 :: r⟩ = .nx ⟨S10 X f y4 y5 (.c 3) (.c 6) .u .u, m'⟩ := by
      simp [e2]
    have q3 := all (.c 3) (.c 6) m' h'
    unfold cTurnK
    rw [cSeq_s, q1, then_nx, cSeq_s, q2, then_nx, q3]
def cBk1 : CS := (cIfS (tNot' (cTru (cCall f__law_back_right (lCons (cIxT (cIxT (cVar 3) (cC (.int 0))) (cC (.int 0))) (lCons (cIxT (cIxT (cVar 3) (cC (.int 0))) (cC (.int 1))) lNil))))) (cRet (cC (.bool false))) cNx)
theorem law_true (ns : List Int) (hl : ns.length ≤ 63) : f_law [.d (.list (ns.map PyData.int))] [] = .ok (.d (.bool true)) [] := by
  have e0 := pen_new hl
  obtain ⟨full, p1, e1, f0, f1, hp1⟩ := drawA 0 (penC ns 0 0) [] 12 (pen_is hl) (by decide) (by decide) (by decide)
  generalize hX : PyData.list (ns.map PyData.int) = X at *
  obtain ⟨y4, y5, m2, e2, h2⟩ := rooms_ok (X := X) (f := .int full) hp1 (by decide)
  obtain ⟨s3, e3, x4, x6, x7, m3, rfl, h3⟩ := forL_inv (tg := tgN 4) (body := cTurnK) (ds := rangeD 0 30) (fun i s => ∃ (x4 x6 x7 : Sl) (m : List Cell), s = ⟨S10 X (.int full) x4 y5 x6 x7 .u .u, m⟩ ∧ W2 i (3 + 11 * i) m)
    (s := ⟨S10 X (.int full) y4 y5 .u .u .u .u, m2⟩) ⟨_, _, _, m2, rfl, h2⟩ fun i s d hd hi => by
      obtain ⟨x4, x6, x7, m, rfl, h⟩ := hi
      have hil := (rangeD_lt hd).1
      obtain ⟨x6', x7', m', e, h'⟩ := turnK_ok (X := X) (f := .int full) (y4 := .d d) (y5 := y5) (y6 := x6) (y7 := x7) h (by omega) (by omega)
      exact ⟨⟨S10 X (.int full) (.d d) y5 x6 x7 .u .u, m⟩, _, rfl, .inl e, .d d, x6', x7', m', rfl, h'.mono (Nat.le_refl _) (by omega)⟩
  rw [rangeD_len] at h3
  obtain ⟨k, hk⟩ : ∃ k : Nat, ciR1 (cOp2 opAdd (cOp1 opLen (cItW "past" (cIxT (cIxT (cVar 3) (cC (.int 0))) (cC (.int 1))))) (cC (.int 1))) ⟨S10 X (.int full) x4 y5 x6 x7 .u .u, m3⟩ = .ok (rangeD 0 k) ⟨S10 X (.int full) x4 y5 x6 x7 .u .u, m3⟩ := by
    obtain ⟨p, r, n1, z1, ly1, ps1, n2, z2, ly2, ps2, hm, hp, h1, h2, a1, a2, a3, a4⟩ := h3.ex
    have ix : (cIxT (cIxT (cVar 3) (cC (.int 0))) (cC (.int 1))) ⟨S10 X (.int full) x4 y5 x6 x7 .u .u, m3⟩ = .ok (.ref 6) ⟨S10 X (.int full) x4 y5 x6 x7 .u .u, m3⟩ := rfl
    have wp : cItW "past" (cIxT (cIxT (cVar 3) (cC (.int 0))) (cC (.int 1))) ⟨S10 X (.int full) x4 y5 x6 x7 .u .u, m3⟩ = .ok (.ref 5) ⟨S10 X (.int full) x4 y5 x6 x7 .u .u, m3⟩ := cItW_ok (n := 6) ix h1.w.o wF_past
    have hP : m3[5]? = some (.l (ps1.map deedS)) := h1.w.p
    refine ⟨((ps1.length : Int) + 1).toNat, ciR1_s (n := (ps1.length : Int) + 1) ?_ (by omega) (by omega)⟩
    simp [wp, hP]
  obtain ⟨s4, e4, w4, m4, rfl, h4⟩ := forL_inv (tg := tgN 4) (body := cBk1) (ds := rangeD 0 k) (fun i s => ∃ (w4 : Sl) (m : List Cell), s = ⟨S10 X (.int full) w4 y5 x6 x7 .u .u, m⟩ ∧ W2 30 333 m)
    (s := ⟨S10 X (.int full) x4 y5 x6 x7 .u .u, m3⟩) ⟨_, m3, rfl, h3⟩ fun i s d hd hi => by
      obtain ⟨w4, m, rfl, h⟩ := hi
      obtain ⟨m', e, h'⟩ := back1 h
      have ix0 : (cIxT (cIxT (cVar 3) (cC (.int 0))) (cC (.int 0))) ⟨S10 X (.int full) (.d d) y5 x6 x7 .u .u, m⟩ = .ok (.ref 3) ⟨S10 X (.int full) (.d d) y5 x6 x7 .u .u, m⟩ := rfl
      have ix1 : (cIxT (cIxT (cVar 3) (cC (.int 0))) (cC (.int 1))) ⟨S10 X (.int full) (.d d) y5 x6 x7 .u .u, m⟩ = .ok (.ref 6) ⟨S10 X (.int full) (.d d) y5 x6 x7 .u .u, m⟩ := rfl
      refine ⟨⟨S10 X (.int full) (.d d) y5 x6 x7 .u .u, m⟩, ⟨S10 X (.int full) (.d d) y5 x6 x7 .u .u, m'⟩, rfl, .inl ?_, .d d, m', rfl, h'⟩
      unfold cBk1
      generalize (cIxT (cIxT (cVar 3) (cC (.int 0))) (cC (.int 0))) = E0' at *
      generalize (cIxT (cIxT (cVar 3) (cC (.int 0))) (cC (.int 1))) = E1' at *
      simp [ix0, ix1, e]
  obtain ⟨m5, e5, h5⟩ := put1 h4 (by decide)
  have q5 : (cIfS (tNot' (cTru (cCall f__law_put_right (lCons (cIxT (cIxT (cVar 3) (cC (.int 0))) (cC (.int 0))) (lCons (cIxT (cIxT (cVar 3) (cC (.int 0))) (cC (.int 1))) (lCons (cTup (cCons (cC (.int 0)) cNil)) lNil)))))) (cRet (cC (.bool false))) cNx) ⟨S10 X (.int full) w4 y5 x6 x7 .u .u, m4⟩ = .nx ⟨S10 X (.int full) w4 y5 x6 x7 .u .u, m5⟩ := by
    have ix0 : (cIxT (cIxT (cVar 3) (cC (.int 0))) (cC (.int 0))) ⟨S10 X (.int full) w4 y5 x6 x7 .u .u, m4⟩ = .ok (.ref 3) ⟨S10 X (.int full) w4 y5 x6 x7 .u .u, m4⟩ := rfl
    have ix1 : (cIxT (cIxT (cVar 3) (cC (.int 0))) (cC (.int 1))) ⟨S10 X (.int full) w4 y5 x6 x7 .u .u, m4⟩ = .ok (.ref 6) ⟨S10 X (.int full) w4 y5 x6 x7 .u .u, m4⟩ := rfl
    generalize (cIxT (cIxT (cVar 3) (cC (.int 0))) (cC (.int 0))) = E0' at *
    generalize (cIxT (cIxT (cVar 3) (cC (.int 0))) (cC (.int 1))) = E1' at *
    simp [ix0, ix1, e5]
  obtain ⟨p6, r6, n1, z1, ly1, ps1, n2, z2, ly2, ps2, hm6, hp6, _⟩ := h5.ex
  subst hm6
  obtain ⟨v, p7, e7, v0, v1, hp7⟩ := drawA _ p6 r6 6 hp6 (by decide) (by decide) (by decide)
  obtain ⟨n, hn⟩ : ∃ n : Nat, 1 + v = (n : Int) := ⟨(1 + v).toNat, by omega⟩
  obtain ⟨p8, e8, hp8⟩ := long_right_ok (r := r6) (n := n) hp7 (by decide) (by omega) (by omega)
  obtain ⟨p9, e9, hp9⟩ := full_right_ok (r := r6) (n := n) hp7 (by decide) (by omega) (by omega)
  have rr : ∀ j : Int, 0 ≤ j → j < 1000 → ∀ s, ciR1 (cC (.int j)) s = .ok (rangeD 0 j.toNat) s := fun j h1 h2 s => ciR1_s (n := j) rfl (by omega) (by omega)
  have r30 := rr 30 (by decide) (by decide)
  have hc : c_law = (cSeq (cSetM 1 (cCallP f__law_pen (lCons (cVar 0) lNil))) (cSeq (cSet 2 (cCall f__law_draw (lCons (cVar 1) (lCons (cC (.int 12)) lNil)))) (cSeq (cGrowP 3 5 (cC (.int 2)) (tgN 4) (cOp2 opAdd (cC (.int 1)) (cCall f__law_draw (lCons (cVar 1) (lCons (cC (.int 6)) lNil)))) (cNew (cVar 5))) (cSeq (cFor (ciR1 (cC (.int 30))) (tgN 4) cTurnK) (cSeq (cFor (ciR1 (cOp2 opAdd (cOp1 opLen (cItW "past" (cIxT (cIxT (cVar 3) (cC (.int 0))) (cC (.int 1))))) (cC (.int 1)))) (tgN 4) cBk1) (cSeq (cIfS (tNot' (cTru (cCall f__law_put_right (lCons (cIxT (cIxT (cVar 3) (cC (.int 0))) (cC (.int 0))) (lCons (cIxT (cIxT (cVar 3) (cC (.int 0))) (cC (.int 1))) (lCons (cTup (cCons (cC (.int 0)) cNil)) lNil)))))) (cRet (cC (.bool false))) cNx) (cSeq (cIfS (cB (cOp2 opEq (cVar 2) (cC (.int 0)))) (cRet (cCall f__law_long_right (lCons (cVar 1) (lCons (cOp2 opAdd (cC (.int 1)) (cCall f__law_draw (lCons (cVar 1) (lCons (cC (.int 6)) lNil)))) lNil)))) cNx) (cRet (cOr (cOp2 opGt (cVar 2) (cC (.int 2))) (cCall f__law_full_right (lCons (cVar 1) (lCons (cOp2 opAdd (cC (.int 1)) (cCall f__law_draw (lCons (cVar 1) (lCons (cC (.int 6)) lNil)))) lNil)))))))))))) := rfl
  have a1 : cSetM 1 (cCallP f__law_pen (lCons (cVar 0) lNil)) ⟨[.d X, .u, .u, .u, .u, .u, .u, .u, .u, .u], []⟩ = .nx ⟨[.d X, .c 0, .u, .u, .u, .u, .u, .u, .u, .u], [penC ns 0 0]⟩ := by
    simp [pen_eq, e0]
  have a2 : cSet 2 (cCall f__law_draw (lCons (cVar 1) (lCons (cC (.int 12)) lNil))) ⟨[.d X, .c 0, .u, .u, .u, .u, .u, .u, .u, .u], [penC ns 0 0]⟩ = .nx ⟨[.d X, .c 0, .d (.int full), .u, .u, .u, .u, .u, .u, .u], [p1]⟩ := by
    simp [draw_eq, e1]
  have fin' : ∃ s', (cSeq (cIfS (cB (cOp2 opEq (cVar 2) (cC (.int 0)))) (cRet (cCall f__law_long_right (lCons (cVar 1) (lCons (cOp2 opAdd (cC (.int 1)) (cCall f__law_draw (lCons (cVar 1) (lCons (cC (.int 6)) lNil)))) lNil)))) cNx) (cRet (cOr (cOp2 opGt (cVar 2) (cC (.int 2))) (cCall f__law_full_right (lCons (cVar 1) (lCons (cOp2 opAdd (cC (.int 1)) (cCall f__law_draw (lCons (cVar 1) (lCons (cC (.int 6)) lNil)))) lNil)))))) ⟨S10 X (.int full) w4 y5 x6 x7 .u .u, p6 :: r6⟩ = .rt (.d (.bool true)) s' := by
    by_cases hf : full = 0
    · exact ⟨_, by simp [hf, draw_eq, e7, hn, e8]; rfl⟩
    · by_cases h2 : 2 < full
      · exact ⟨_, by simp [hf, h2]; rfl⟩
      · exact ⟨_, by simp [hf, h2, draw_eq, e7, hn, e9]; rfl⟩
  obtain ⟨s', hfin⟩ := fin'
  have go : c_law ⟨[.d X, .u, .u, .u, .u, .u, .u, .u, .u, .u], []⟩ = .rt (.d (.bool true)) s' := by
    rw [hc, cSeq_s, a1, then_nx, cSeq_s, a2, then_nx, cSeq_s, e2, then_nx, cSeq_s, cFor_s, r30, out_ok]
    show ((forL (tgN 4) cTurnK (rangeD 0 30) _).then _) = _
    rw [e3, then_nx, cSeq_s, cFor_s, hk, out_ok, e4, then_nx, cSeq_s, q5, then_nx, hfin]
  show fin [] (c_law ⟨[.d X, .u, .u, .u, .u, .u, .u, .u, .u, .u], []⟩) = _
  rw [go, fin_d]
  rfl
end Vm
namespace Vm
open PySem L2 PySem.Spec PyProof.Rows
def topS (i : Nat) : Stmt := PySem.Challenge.pw_emptierbox_k57_a_room.main.body.getD i (.Pass ⟨0, 0, 0, 0⟩)
abbrev s_chosen : Stmt := topS 1
abbrev N_chosen : List Str := ["stand", "draw", "best", "box"]
theorem sc_chosen : FnScope N_chosen ["stand", "draw"] (defScope s_chosen) := ⟨rfl, rfl, rfl, by decide +kernel, rfl, by decide +kernel, by decide +kernel⟩
abbrev s_is_whole : Stmt := topS 14
abbrev N_is_whole : List Str := ["thing"]
theorem sc_is_whole : FnScope N_is_whole ["thing"] (defScope s_is_whole) := ⟨rfl, rfl, rfl, by decide +kernel, rfl, by decide +kernel, by decide +kernel⟩
abbrev s_sorted_load : Stmt := topS 16
abbrev N_sorted_load : List Str := ["numbers"]
theorem sc_sorted_load : FnScope N_sorted_load ["numbers"] (defScope s_sorted_load) := ⟨rfl, rfl, rfl, by decide +kernel, rfl, by decide +kernel, by decide +kernel⟩
abbrev s__law_pen : Stmt := topS 21
abbrev N__law_pen : List Str := ["_law_script"]
theorem sc__law_pen : FnScope N__law_pen ["_law_script"] (defScope s__law_pen) := ⟨rfl, rfl, rfl, by decide +kernel, rfl, by decide +kernel, by decide +kernel⟩
abbrev s__law_draw : Stmt := topS 22
abbrev N__law_draw : List Str := ["_law_pen_here", "_law_many", "_law_found", "_law_at", "_law_cell", "_law_prime", "_law_number"]
theorem sc__law_draw : FnScope N__law_draw ["_law_pen_here", "_law_many"] (defScope s__law_draw) := ⟨rfl, rfl, rfl, by decide +kernel, rfl, by decide +kernel, by decide +kernel⟩
abbrev s__law_is_whole : Stmt := topS 23
abbrev N__law_is_whole : List Str := ["_law_thing"]
theorem sc__law_is_whole : FnScope N__law_is_whole ["_law_thing"] (defScope s__law_is_whole) := ⟨rfl, rfl, rfl, by decide +kernel, rfl, by decide +kernel, by decide +kernel⟩
abbrev s__law_heard : Stmt := topS 24
abbrev N__law_heard : List Str := ["_law_asked", "_law_caught", "_law_found", "e", "_law_marks"]
theorem sc__law_heard : FnScope N__law_heard ["_law_asked"] (defScope s__law_heard) := ⟨rfl, rfl, rfl, by decide +kernel, rfl, by decide +kernel, by decide +kernel⟩
abbrev s__law_counts : Stmt := topS 25
abbrev N__law_counts : List Str := ["_law_world", "_law_found", "_law_ball_here"]
theorem sc__law_counts : FnScope N__law_counts ["_law_world"] (defScope s__law_counts) := ⟨rfl, rfl, rfl, by decide +kernel, rfl, by decide +kernel, by decide +kernel⟩
abbrev s_Room__stand : Stmt := inClass (topS 19) 5
abbrev N_Room__stand : List Str := ["self", "counts", "ball", "box"]
theorem sc_Room__stand : FnScope N_Room__stand ["self"] (defScope s_Room__stand) := ⟨rfl, rfl, rfl, by decide +kernel, rfl, by decide +kernel, by decide +kernel⟩
abbrev s_Room__put : Stmt := inClass (topS 19) 1
abbrev N_Room__put : List Str := ["self", "draw", "box", "ball"]
theorem sc_Room__put : FnScope N_Room__put ["self", "draw"] (defScope s_Room__put) := ⟨rfl, rfl, rfl, by decide +kernel, rfl, by decide +kernel, by decide +kernel⟩
abbrev s__law_put_right : Stmt := topS 26
abbrev N__law_put_right : List Str := ["_law_room", "_law_world", "_law_draw_here", "_law_counts_here", "_law_least", "_law_box", "_law_found", "_law_ball_here", "_law_one"]
theorem sc__law_put_right : FnScope N__law_put_right ["_law_room", "_law_world", "_law_draw_here"] (defScope s__law_put_right) := ⟨rfl, rfl, rfl, by decide +kernel, rfl, by decide +kernel, by decide +kernel⟩
abbrev s_Room__where : Stmt := inClass (topS 19) 2
abbrev N_Room__where : List Str := ["self", "ball"]
theorem sc_Room__where : FnScope N_Room__where ["self", "ball"] (defScope s_Room__where) := ⟨rfl, rfl, rfl, by decide +kernel, rfl, by decide +kernel, by decide +kernel⟩
abbrev s_Room__leave : Stmt := inClass (topS 19) 3
abbrev N_Room__leave : List Str := ["self", "ball", "box"]
theorem sc_Room__leave : FnScope N_Room__leave ["self", "ball"] (defScope s_Room__leave) := ⟨rfl, rfl, rfl, by decide +kernel, rfl, by decide +kernel, by decide +kernel⟩
abbrev s__law_leave_right : Stmt := topS 27
abbrev N__law_leave_right : List Str := ["_law_room", "_law_world", "_law_ball_here", "_law_found", "_law_box"]
theorem sc__law_leave_right : FnScope N__law_leave_right ["_law_room", "_law_world", "_law_ball_here"] (defScope s__law_leave_right) := ⟨rfl, rfl, rfl, by decide +kernel, rfl, by decide +kernel, by decide +kernel⟩
abbrev s_Room__back : Stmt := inClass (topS 19) 4
abbrev N_Room__back : List Str := ["self", "came", "ball", "box"]
theorem sc_Room__back : FnScope N_Room__back ["self"] (defScope s_Room__back) := ⟨rfl, rfl, rfl, by decide +kernel, rfl, by decide +kernel, by decide +kernel⟩
abbrev s__law_back_right : Stmt := topS 28
abbrev N__law_back_right : List Str := ["_law_room", "_law_world", "_law_found", "_law_word", "_law_ball_here", "_law_box"]
theorem sc__law_back_right : FnScope N__law_back_right ["_law_room", "_law_world"] (defScope s__law_back_right) := ⟨rfl, rfl, rfl, by decide +kernel, rfl, by decide +kernel, by decide +kernel⟩
abbrev s_Room__load : Stmt := inClass (topS 19) 6
abbrev N_Room__load : List Str := ["self"]
theorem sc_Room__load : FnScope N_Room__load ["self"] (defScope s_Room__load) := ⟨rfl, rfl, rfl, by decide +kernel, rfl, by decide +kernel, by decide +kernel⟩
abbrev s__law_shown_right : Stmt := topS 29
abbrev N__law_shown_right : List Str := ["_law_room", "_law_world", "_law_counts_here", "_law_ball_here"]
theorem sc__law_shown_right : FnScope N__law_shown_right ["_law_room", "_law_world"] (defScope s__law_shown_right) := ⟨rfl, rfl, rfl, by decide +kernel, rfl, by decide +kernel, by decide +kernel⟩
abbrev s__law_ball : Stmt := topS 30
abbrev N__law_ball : List Str := ["_law_pen_here", "_law_world", "_law_way", "_law_odd", "_law_lying"]
theorem sc__law_ball : FnScope N__law_ball ["_law_pen_here", "_law_world"] (defScope s__law_ball) := ⟨rfl, rfl, rfl, by decide +kernel, rfl, by decide +kernel, by decide +kernel⟩
abbrev s__law_deed_right : Stmt := topS 31
abbrev N__law_deed_right : List Str := ["_law_pen_here", "_law_room", "_law_world", "_law_way", "_law_size", "_law_k"]
theorem sc__law_deed_right : FnScope N__law_deed_right ["_law_pen_here", "_law_room", "_law_world"] (defScope s__law_deed_right) := ⟨rfl, rfl, rfl, by decide +kernel, rfl, by decide +kernel, by decide +kernel⟩
abbrev s__law_full_right : Stmt := topS 32
abbrev N__law_full_right : List Str := ["_law_pen_here", "_law_n", "_law_room", "_law_world", "_law_k", "_law_gone"]
theorem sc__law_full_right : FnScope N__law_full_right ["_law_pen_here", "_law_n"] (defScope s__law_full_right) := ⟨rfl, rfl, rfl, by decide +kernel, rfl, by decide +kernel, by decide +kernel⟩
abbrev s__law_long_right : Stmt := topS 33
abbrev N__law_long_right : List Str := ["_law_pen_here", "_law_n", "_law_room", "_law_world", "_law_k", "_law_some"]
theorem sc__law_long_right : FnScope N__law_long_right ["_law_pen_here", "_law_n"] (defScope s__law_long_right) := ⟨rfl, rfl, rfl, by decide +kernel, rfl, by decide +kernel, by decide +kernel⟩
abbrev s_law : Stmt := topS 34
abbrev N_law : List Str := ["_law_script", "_law_pen_here", "_law_full", "_law_rooms", "_law_k", "_law_n", "_law_room", "_law_world", "_law_one", "_law_other"]
theorem sc_law : FnScope N_law ["_law_script"] (defScope s_law) := ⟨rfl, rfl, rfl, by decide +kernel, rfl, by decide +kernel, by decide +kernel⟩
/-- what the top leaves beside the defs -/
structure Txt (K : Fg) (mg : Str → Option Value) (ec : EC) : Prop where
  z_abs : mg "abs" = none
  z_all : mg "all" = none
  z_bool : mg "bool" = none
  z_int : mg "int" = none
  z_isinstance : mg "isinstance" = none
  z_len : mg "len" = none
  z_list : mg "list" = none
  z_min : mg "min" = none
  z_range : mg "range" = none
  z_sorted : mg "sorted" = none
  z_tuple : mg "tuple" = none
  x_NoBack : ExcF K mg ec "NoBack" "NoBack"
  x_NoBall : ExcF K mg ec "NoBall" "NoBall"
  x_TooMany : ExcF K mg ec "TooMany" "TooMany"
  k_MOST_BALLS : ∃ t, mg "MOST_BALLS" = some (.int 60 t)
  cls_Room : ClsF K mg ec "Room" ["many", "lying", "known", "past"]
  w : Bas ec.w
  exc : ∀ m, m ∈ ec.X → ExcC K (ec.f m)
  i_Fuller : IsF K mg ec "Fuller" "Fuller"
  i_NoBack : IsF K mg ec "NoBack" "NoBack"
  i_NoBall : IsF K mg ec "NoBall" "NoBall"
  i_NoName : IsF K mg ec "NoName" "NoName"
  i_NoRow : IsF K mg ec "NoRow" "NoRow"
  i_NoShare : IsF K mg ec "NoShare" "NoShare"
  i_NoText : IsF K mg ec "NoText" "NoText"
  i_TooMany : IsF K mg ec "TooMany" "TooMany"
  i_Unlike : IsF K mg ec "Unlike" "Unlike"
  i_ValueError : IsF K mg ec "ValueError" "ValueError"
  c_BallError : CatF K mg ec "BallError" ["NoBack", "NoBall", "TooMany"]
section
variable {P : Program} {wo : World} {K : Fg} {mg : Str → Option Value} {base : Heap} {ec : EC}
abbrev s_init_Room : Stmt := inClass (topS 19) 0
theorem sc_init_Room : FnScope ["self", "n"] ["self", "n"] (defScope s_init_Room) := ⟨rfl, rfl, rfl, by decide +kernel, rfl, by decide +kernel, by decide +kernel⟩
theorem ok_init_Room {f : Addr} {fd : FuncData} (T : Txt K mg ec) (F : Fun K "__init__" "Room.__init__" s_init_Room f fd) : FnOk P wo K mg base CX0 1 f fd ["self", "n"] (spRoom (ec.f "Room")) := by
  refine F.ok sc_init_Room (fun vs H Q E h => ?_) (fun cdv A outer s H vs Q E hr h => ?_)
  · obtain ⟨p, dx, x, rfl, _⟩ := h
    rfl
  · obtain ⟨p, dx, x, rfl, hp, k⟩ := h
    have c := T.cls_Room.c
    have n1 := T.cls_Room.n "many" (by decide)
    have n2 := T.cls_Room.n "lying" (by decide)
    have n3 := T.cls_Room.n "known" (by decide)
    have n4 := T.cls_Room.n "past" (by decide)
    refine ⟨_, pss_cons (ps_fld (pv 0) (pv 1) rfl) (pss_cons (ps_fld (pv 0) pe_dnewK rfl) (pss_cons (ps_fld (pv 0) pe_int rfl) (pss_one (ps_fld (pv 0) (pe_lst pa_nil) rfl)))), ?_⟩
    refine ⟨_, rfl, _, rfl, p, _, dx, [], rfl, hp, c, n1, by decide, ?_⟩
    intro d hd
    have npd : d ≠ p := fun z => by
      subst z
      rw [upd_same] at hd
      cases hd
    refine ⟨_, rfl, p, _, dx, _, rfl, (by rw [upd_ne (Ne.symm npd)]; exact upd_same), c, n2, Nat.lt_of_le_of_lt (putF_len (n := 0) (Nat.zero_le _)) (by decide), ?_⟩
    refine ⟨_, rfl, p, _, dx, _, rfl, upd_same, c, n3, Nat.lt_of_le_of_lt (putF_len (putF_len (n := 0) (Nat.zero_le _))) (by decide), Nat.zero_le _, ?_⟩
    intro q hq
    have npq : q ≠ p := fun z => by
      subst z
      rw [upd_same] at hq
      cases hq
    refine ⟨_, rfl, p, _, dx, _, rfl, (by rw [upd_ne (Ne.symm npq)]; exact upd_same), c, n4, Nat.lt_of_le_of_lt (putF_len (putF_len (putF_len (n := 0) (Nat.zero_le _)))) (by decide), ?_⟩
    rw [upd_ne npq, upd_ne npq] at hq
    have nqd : q ≠ d := fun z => by
      subst z
      rw [upd_same] at hq
      cases hq
    rw [upd_ne nqd, upd_ne npq] at hq
    rw [upd_ne npd] at hd
    refine k d q _ npd npq nqd hd hq ?_
    rw [room_put]
    exact room_heap npd npq
theorem ok_chosen (T : Txt K mg ec) (Df : DefF K mg "chosen" s_chosen ["stand", "draw"])    : Cal P wo K mg base ec "chosen" ["stand", "draw"] f_chosen 1 :=
  Df.cal fun F => fn_ok (k := 0) F sc_chosen c_chosen fun cdv A outer s H E hr tk hp => by
    have nd := sc_chosen.nd
    have hu := hr.units
    have hu1 := hu_of hr
    have hw := T.w
    exact (b_cons (s_set 2 nd (e_ixR ixr_V s_ix (e_var 1) e_int))
 (b_cons (s_for (own := [3]) hp (i_seq (e_var 1)) (g_name 3 nd (by decide))
 (b_one (s_if (t_cmp (OpR.or op_lt (op_ltV hu)) s_ord (e_ixR ixr_V s_ix (e_var 0) (e_var 3)) (e_ixR ixr_V s_ix (e_var 0) (e_var 2)))
 (b_one (s_set 2 nd (e_var 3)))
 b_nil)))
 (b_one (s_ret (e_var 2)))))
theorem ok_is_whole (T : Txt K mg ec) (Df : DefF K mg "is_whole" s_is_whole ["thing"])    : Cal P wo K mg base ec "is_whole" ["thing"] f_is_whole 1 :=
  Df.cal fun F => fn_ok (k := 0) F sc_is_whole c_is_whole fun cdv A outer s H E hr tk hp => by
    have nd := sc_is_whole.nd
    have hu := hr.units
    have hu1 := hu_of hr
    have hw := T.w
    exact (b_one (s_ret (e_and (e_isi (T := "int") T.z_isinstance T.z_int PyProof.Rows.boot_int (by decide +kernel) (e_var 0)) (e_one (e_not (e_isi (T := "bool") T.z_isinstance T.z_bool PyProof.Rows.boot_bool (by decide +kernel) (e_var 0)))))))
theorem ok_sorted_load (T : Txt K mg ec) (Df : DefF K mg "sorted_load" s_sorted_load ["numbers"])    : Cal P wo K mg base ec "sorted_load" ["numbers"] f_sorted_load 1 :=
  Df.cal fun F => fn_ok (k := 0) F sc_sorted_load c_sorted_load fun cdv A outer s H E hr tk hp => by
    have nd := sc_sorted_load.nd
    have hu := hr.units
    have hu1 := hu_of hr
    have hw := T.w
    exact (b_one (s_ret (e_callT1 call_tuple_of s_tuple T.z_tuple (by decide +kernel) (e_sortTD hu T.z_sorted (e_var 0)))))
theorem ok__law_pen (T : Txt K mg ec) (Df : DefF K mg "_law_pen" s__law_pen ["_law_script"])    : Cal P wo K mg base ec "_law_pen" ["_law_script"] f__law_pen 1 :=
  Df.cal fun F => fn_ok (k := 0) F sc__law_pen c__law_pen fun cdv A outer s H E hr tk hp => by
    have nd := sc__law_pen.nd
    have hu := hr.units
    have hu1 := hu_of hr
    have hw := T.w
    exact (b_one (s_ret (e_disp (dp_cons (key := (.inr "cells")) pe_str (e_sl (e_var 0) o_none (o_some e_int)) (dp_cons (key := (.inr "at")) pe_str e_int (dp_cons (key := (.inr "left")) pe_str e_int dp_nil cl_nil rfl) (cl_cons cl_nil) rfl) (cl_cons (cl_cons cl_nil)) rfl) (cl_cons (cl_cons (cl_cons cl_nil))) (by decide))))
theorem ok__law_draw (T : Txt K mg ec) (Df : DefF K mg "_law_draw" s__law_draw ["_law_pen_here", "_law_many"])    : Cal P wo K mg base ec "_law_draw" ["_law_pen_here", "_law_many"] f__law_draw 1 :=
  Df.cal fun F => fn_ok (k := 0) F sc__law_draw c__law_draw fun cdv A outer s H E hr tk hp => by
    have nd := sc__law_draw.nd
    have hu := hr.units
    have hu1 := hu_of hr
    have hw := T.w
    exact (b_cons (s_if (t_cmp (OpR.or op_gt (op_gtV hu)) s_ord (e_item hu1 (e_var 0) e_str) e_int)
 (b_cons (s_set 2 nd (e_bin op_modN s_mod (e_item hu1 (e_var 0) e_str) (e_var 1)))
 (b_cons (s_dput hu1 (e_var 0) e_str (e_bin op_fdivV s_div (e_item hu1 (e_var 0) e_str) (e_var 1)))
 (b_one (s_ret (e_var 2)))))
 b_nil)
 (b_cons (s_set 3 nd (e_item hu1 (e_var 0) e_str))
 (b_cons (s_dput hu1 (e_var 0) e_str (e_bin or_add s_add (e_var 3) e_int))
 (b_cons (s_set 4 nd (e_bin or_add s_add (e_bin or_mul s_mulV e_int (e_var 3)) e_int))
 (b_cons (s_if (t_cmp (OpR.or op_gt (op_gtV hu)) s_ord (e_call1 call_lenV s_len T.z_len PySem.boot_len (e_item hu1 (e_var 0) e_str)) e_int)
 (b_one (s_set 4 nd (e_ixR ixr_V s_ix (e_item hu1 (e_var 0) e_str) (e_bin op_modN s_mod (e_var 3) (e_call1 call_lenV s_len T.z_len PySem.boot_len (e_item hu1 (e_var 0) e_str))))))
 b_nil)
 (b_cons (s_if (t_bop (p_and (t_cmp (OpR.or op_lt (op_ltV hu)) s_ord (e_var 3) (e_call1 call_lenV s_len T.z_len PySem.boot_len (e_item hu1 (e_var 0) e_str))) (p_and1 (t_cmp (OpR.or op_ge (op_geV hu)) s_ord (e_call1 call_abs s_abs T.z_abs PyProof.Rows.boot_abs (e_var 4)) (e_bin op_pow s_pow e_int e_int)))))
 (b_cons (s_dput hu1 (e_var 0) e_str (e_bin op_fdivV s_div (e_call1 call_abs s_abs T.z_abs PyProof.Rows.boot_abs (e_var 4)) (e_var 1)))
 (b_one (s_ret (e_bin op_modN s_mod (e_call1 call_abs s_abs T.z_abs PyProof.Rows.boot_abs (e_var 4)) (e_var 1)))))
 b_nil)
 (b_cons (s_set 5 nd (e_ixR ixr_V s_ix (e_tup (a_cons e_int (a_cons e_int (a_cons e_int (a_cons e_int (a_cons e_int (a_cons e_int (a_cons e_int a_nil))))))) (CLen.le (cl_cons (cl_cons (cl_cons (cl_cons (cl_cons (cl_cons (cl_cons cl_nil))))))) (by decide))) (e_bin op_modN s_mod (e_var 3) e_int)))
 (b_cons (s_set 6 nd (e_bin op_modN s_mod (e_bin op_pow s_pow (e_bin or_add s_add (e_bin or_add s_add (e_bin or_add s_add (e_bin op_modN s_mod (e_var 4) e_int) (e_bin or_mul s_mulV (e_bin or_mul s_mulV e_int (e_var 3)) (e_var 3))) (e_bin or_mul s_mulV e_int (e_var 3))) e_int) e_int) (e_var 5)))
 (b_cons (s_set 6 nd (e_bin op_modN s_mod (e_bin op_pow s_pow (e_bin or_add s_add (e_bin or_add s_add (e_var 6) (e_bin or_mul s_mulV e_int (e_var 3))) e_int) e_int) e_int))
 (b_one (s_ret (e_bin op_modN s_mod (e_bin op_fdivV s_div (e_bin op_modN s_mod (e_bin or_mul s_mulV (e_var 6) e_int) e_int) e_int) (e_var 1)))))))))))))
theorem ok__law_is_whole (T : Txt K mg ec) (Df : DefF K mg "_law_is_whole" s__law_is_whole ["_law_thing"])    : Cal P wo K mg base ec "_law_is_whole" ["_law_thing"] f__law_is_whole 1 :=
  Df.cal fun F => fn_ok (k := 0) F sc__law_is_whole c__law_is_whole fun cdv A outer s H E hr tk hp => by
    have nd := sc__law_is_whole.nd
    have hu := hr.units
    have hu1 := hu_of hr
    have hw := T.w
    exact (b_one (s_ret (e_and (e_isi (T := "int") T.z_isinstance T.z_int PyProof.Rows.boot_int (by decide +kernel) (e_var 0)) (e_one (e_not (e_isi (T := "bool") T.z_isinstance T.z_bool PyProof.Rows.boot_bool (by decide +kernel) (e_var 0)))))))
theorem ok__law_heard (T : Txt K mg ec) (k : Nat) : HeardOk P wo K mg base ec "_law_heard" "_law_asked" N__law_heard s__law_heard c__law_heard (k + 1) := fun g cdv A outer s H w0 lf ask hr act => by
    have nd := sc__law_heard.nd
    have hu := hr.units
    have hu1 := hu_of hr
    exact (b_cons (s_set 1 nd e_none)
 (b_cons (s_set 2 nd e_none)
 (b_cons (s_try ["NoBack", "NoBall", "TooMany"] 3 1 rfl rfl nd takesN T.c_BallError.at (fun W pn xe tk hp =>
 (b_one (s_set 2 nd (act tk)))))
 (b_cons (s_if (t_isN 1)
 (b_one (s_ret (e_lst (a_cons (e_var 2) a_nil) (CLen.le (cl_cons cl_nil) (by decide)))))
 b_nil)
 (b_cons (s_set 4 nd (e_lst (a_cons (e_isX 1 T.z_isinstance T.i_NoShare.at T.exc) (a_cons (e_isX 1 T.z_isinstance T.i_NoBall.at T.exc) (a_cons (e_isX 1 T.z_isinstance T.i_Unlike.at T.exc) a_nil))) (CLen.le (cl_cons (cl_cons (cl_cons cl_nil))) (by decide))))
 (b_cons (s_set 4 nd (e_bin or_add s_add (e_var 4) (e_lst (a_cons (e_isX 1 T.z_isinstance T.i_Fuller.at T.exc) (a_cons (e_isX 1 T.z_isinstance T.i_TooMany.at T.exc) (a_cons (e_isX 1 T.z_isinstance T.i_NoBack.at T.exc) a_nil))) (CLen.le (cl_cons (cl_cons (cl_cons cl_nil))) (by decide)))))
 (b_cons (s_set 4 nd (e_bin or_add s_add (e_var 4) (e_lst (a_cons (e_isX 1 T.z_isinstance T.i_NoName.at T.exc) (a_cons (e_isX 1 T.z_isinstance T.i_NoText.at T.exc) (a_cons (e_isX 1 T.z_isinstance T.i_NoRow.at T.exc) a_nil))) (CLen.le (cl_cons (cl_cons (cl_cons cl_nil))) (by decide)))))
 (b_cons (s_if (t_bop (p_or (t_cmp (op_neV hu) s_ne (e_count hr (e_var 4) e_bool) e_int) (p_or1 (t_not (t_of (e_isX 1 T.z_isinstance T.i_ValueError.at T.exc))))))
 (b_one (s_ret e_str))
 b_nil)
 (b_one (s_ret (e_ixR ixr_V s_ix (e_lst (a_cons e_str (a_cons e_str (a_cons e_str (a_cons e_str (a_cons e_str (a_cons e_str (a_cons e_str (a_cons e_str (a_cons e_str a_nil))))))))) (CLen.le (cl_cons (cl_cons (cl_cons (cl_cons (cl_cons (cl_cons (cl_cons (cl_cons (cl_cons cl_nil))))))))) (by decide))) (e_index (e_var 4) e_bool))))))))))))
theorem ok__law_counts (T : Txt K mg ec) (Df : DefF K mg "_law_counts" s__law_counts ["_law_world"])    : Cal P wo K mg base ec "_law_counts" ["_law_world"] f__law_counts 1 :=
  Df.cal fun F => fn_ok (k := 0) F sc__law_counts c__law_counts fun cdv A outer s H E hr tk hp => by
    have nd := sc__law_counts.nd
    have hu := hr.units
    have hu1 := hu_of hr
    have hw := T.w
    exact (b_cons (s_setM 1 nd (e_bin or_mul s_mulV (e_lst (a_cons e_int a_nil) (CLen.le (cl_cons cl_nil) (by decide))) (e_itW hu1 (e_var 0))))
 (b_cons (s_lk (pkF 0 "lying") (s_for (own := [2]) hp (i_keysL (e_itW hu1 (e_var 0))) (g_name 2 nd (by decide))
 (b_one (s_putL (e_var 1) (e_item hu1 (e_itW hu1 (e_var 0)) (e_var 2)) (e_bin or_add s_add (e_ixR ixr_V s_ix (e_var 1) (e_item hu1 (e_itW hu1 (e_var 0)) (e_var 2))) e_int)))))
 (b_one (s_ret (e_var 1)))))
theorem ok_Room__stand (T : Txt K mg ec) (Df : MthF K ec "Room" "stand" "Room.stand" s_Room__stand ["self"])    : CalM P wo K mg base ec "Room" "stand" ["self"] f_Room__stand 1 :=
  Df.calM fun F => fn_ok (k := 0) F sc_Room__stand c_Room__stand fun cdv A outer s H E hr tk hp => by
    have nd := sc_Room__stand.nd
    have hu := hr.units
    have hu1 := hu_of hr
    have hw := T.w
    exact (b_cons (s_setLcM 1 (own := [("box", 3)]) nd (blkOk_by (own := [("box", 3)]) (N := N_Room__stand) (sc := defScope s_Room__stand) (by decide +kernel)) (i_range1 (e_fld T.cls_Room (e_var 0)) T.z_range) (fun _ _ _ _ _ => (g_name 3 nd (by decide))) (fun _ _ _ _ _ => ts_nil) (fun _ _ _ _ _ => e_int))
 (b_cons (s_lk (pkF 0 "lying") (s_for (own := [2]) hp (i_keysL (e_fld T.cls_Room (e_var 0))) (g_name 2 nd (by decide))
 (b_one (s_putL (e_var 1) (e_item hu1 (e_fld T.cls_Room (e_var 0)) (e_var 2)) (e_bin or_add s_add (e_ixR ixr_V s_ix (e_var 1) (e_item hu1 (e_fld T.cls_Room (e_var 0)) (e_var 2))) e_int)))))
 (b_one (s_ret (e_callT1 call_tuple_of s_tuple T.z_tuple (by decide +kernel) (e_var 1))))))
theorem ok_Room__put (T : Txt K mg ec) (Df : MthF K ec "Room" "put" "Room.put" s_Room__put ["self", "draw"])   (C_chosen : Cal P wo K mg base ec "chosen" ["stand", "draw"] f_chosen 1) (C_Room__stand : CalM P wo K mg base ec "Room" "stand" ["self"] f_Room__stand 1) : CalM P wo K mg base ec "Room" "put" ["self", "draw"] f_Room__put 2 :=
  Df.calM fun F => fn_ok (k := 1) F sc_Room__put c_Room__put fun cdv A outer s H E hr tk hp => by
    have nd := sc_Room__put.nd
    have hu := hr.units
    have hu1 := hu_of hr
    have hw := T.w
    exact (b_cons (s_if (t_cmp (op_eqV hu) s_eq (e_call1 call_lenV s_len T.z_len PySem.boot_len (e_fld T.cls_Room (e_var 0))) (e_globI T.k_MOST_BALLS))
 (b_one (s_raise T.x_TooMany tk))
 b_nil)
 (b_cons (s_set 2 nd (e_callP C_chosen (hr.mono (by decide)) tk (l_cons (e_meth0 T.cls_Room C_Room__stand (hr.mono (by decide)) tk (e_var 0)) (l_cons (e_var 1) l_nil)) (ll_cons (ll_cons ll_nil))))
 (b_cons (s_set 3 nd (e_fld T.cls_Room (e_var 0)))
 (b_cons (s_fld T.cls_Room (e_var 0) (e_bin or_add s_add (e_var 3) e_int))
 (b_cons (s_dput hu1 (e_fld T.cls_Room (e_var 0)) (e_var 3) (e_var 2))
 (b_cons (s_expr (e_append (e_fld T.cls_Room (e_var 0)) (a_cons (e_tup (a_cons e_bool (a_cons (e_var 3) (a_cons (e_var 2) a_nil))) (CLen.le (cl_cons (cl_cons (cl_cons cl_nil))) (by decide))) a_nil)))
 (b_one (s_ret (e_tup (a_cons (e_var 3) (a_cons (e_var 2) a_nil)) (CLen.le (cl_cons (cl_cons cl_nil)) (by decide)))))))))))
theorem ok__law_put_right (T : Txt K mg ec) (Df : DefF K mg "_law_put_right" s__law_put_right ["_law_room", "_law_world", "_law_draw_here"]) (LF : LamF K mg base ec "_law_put_right" (("_law_put_right" : Str) ++ ".<locals>." ++ "<lambda>")) (D__law_heard : DefF K mg "_law_heard" s__law_heard ["_law_asked"]) (H__law_heard : ∀ k : Nat, HeardOk P wo K mg base ec "_law_heard" "_law_asked" N__law_heard s__law_heard c__law_heard (k + 1))  (C_Room__put : CalM P wo K mg base ec "Room" "put" ["self", "draw"] f_Room__put 2) (C__law_is_whole : Cal P wo K mg base ec "_law_is_whole" ["_law_thing"] f__law_is_whole 1) (C__law_counts : Cal P wo K mg base ec "_law_counts" ["_law_world"] f__law_counts 1) : Cal P wo K mg base ec "_law_put_right" ["_law_room", "_law_world", "_law_draw_here"] f__law_put_right 5 := by
  obtain ⟨lc, lP, TB, mT, one, hcode⟩ := LF.ex
  exact Df.calL fun F hm lk => fn_okL (k := 4) F sc__law_put_right c__law_put_right (hcode _ _ _ _ _ hm lk) fun A outer s H E hr tk hp => by
    have nd := sc__law_put_right.nd
    have hu := hr.units
    have hu1 := hu_of hr
    have hw := T.w
    exact (b_cons (s_set 3 nd (e_callC C__law_counts (hr.mono (by decide)) tk (l_cons (e_var 1) l_nil) (ll_cons ll_nil)))
 (b_cons (s_set 4 nd (e_call1 (call_minV hr rfl) s_min T.z_min (by decide +kernel) (e_lc (own := [("_law_box", 5)]) nd (blkOk_by (own := [("_law_box", 5)]) (N := N__law_put_right) (sc := defScope s__law_put_right) (by decide +kernel)) (i_seq (e_var 2)) (fun _ _ _ _ _ => (g_name 5 nd (by decide))) (fun _ _ _ _ _ => ts_nil) (fun _ _ _ _ _ => (e_ixR ixr_V s_ix (e_var 3) (e_var 5))))))
 (b_cons (s_set 5 nd (e_ixR ixr_V s_ix (e_lc (own := [("_law_one", 8)]) nd (blkOk_by (own := [("_law_one", 8)]) (N := N__law_put_right) (sc := defScope s__law_put_right) (by decide +kernel)) (i_seq (e_var 2)) (fun _ _ _ _ _ => (g_name 8 nd (by decide))) (fun _ _ _ _ _ => (ts_one (t_cmp (op_eqV hu) s_eq (e_ixR ixr_V s_ix (e_var 3) (e_var 8)) (e_var 4)))) (fun _ _ _ _ _ => (e_var 8))) e_int))
 (b_cons (s_set 6 nd (e_heard (k := 2) D__law_heard sc__law_heard (H__law_heard 2) (hr.mono (by decide)) TB rfl mT one (LamX.lamS_by (sc := defScope s__law_put_right) (by decide +kernel)) (fun A outer t G E f c' hr => have hu := hr.units; have hu1 := hu_of hr; (e_meth T.cls_Room C_Room__put (hr.mono (by decide)) takesL (e_var 0) (l_cons (e_var 2) l_nil) (ll_cons ll_nil)))))
 (b_cons (s_if (t_cmp (op_eqV hu) s_eq (e_call1 call_lenV s_len T.z_len PySem.boot_len (e_itW hu1 (e_var 1))) e_int)
 (b_one (s_ret (e_cmp (op_eqV hu) s_eq (e_var 6) e_str)))
 b_nil)
 (b_cons (s_set 7 nd (e_itW hu1 (e_var 1)))
 (b_cons (s_putW hu1 (e_var 1) (e_bin or_add s_add (e_var 7) e_int))
 (b_cons (s_dput hu1 (e_itW hu1 (e_var 1)) (e_var 7) (e_var 5))
 (b_cons (s_expr (e_append (e_itW hu1 (e_var 1)) (a_cons (e_tup (a_cons e_str (a_cons (e_var 7) (a_cons (e_var 5) a_nil))) (CLen.le (cl_cons (cl_cons (cl_cons cl_nil))) (by decide))) a_nil)))
 (b_one (s_ret (e_and (e_cmp (op_eqV hu) s_eq (e_var 6) (e_lst (a_cons (e_tup (a_cons (e_var 7) (a_cons (e_var 5) a_nil)) (CLen.le (cl_cons (cl_cons cl_nil)) (by decide))) a_nil) (CLen.le (cl_cons cl_nil) (by decide)))) (e_one (e_call1 (cr_all rfl) s_all T.z_all (by decide +kernel) (e_lc (own := [("_law_one", 8)]) nd (blkOk_by (own := [("_law_one", 8)]) (N := N__law_put_right) (sc := defScope s__law_put_right) (by decide +kernel)) (i_seq (e_ixR ixr_V s_ix (e_var 6) e_int)) (fun _ _ _ _ _ => (g_name 8 nd (by decide))) (fun _ _ _ _ _ => ts_nil) (fun _ _ _ _ _ => (e_callP C__law_is_whole (hr.mono (by decide)) takes0 (l_cons (e_var 8) l_nil) (ll_cons ll_nil))))))))))))))))))
theorem ok_Room__where (T : Txt K mg ec) (Df : MthF K ec "Room" "where" "Room.where" s_Room__where ["self", "ball"])   (C_is_whole : Cal P wo K mg base ec "is_whole" ["thing"] f_is_whole 1) : CalM P wo K mg base ec "Room" "where" ["self", "ball"] f_Room__where 2 :=
  Df.calM fun F => fn_ok (k := 1) F sc_Room__where c_Room__where fun cdv A outer s H E hr tk hp => by
    have nd := sc_Room__where.nd
    have hu := hr.units
    have hu1 := hu_of hr
    have hw := T.w
    exact (b_cons (s_if (t_bop (p_or (t_not (t_of (e_callP C_is_whole (hr.mono (by decide)) tk (l_cons (e_var 1) l_nil) (ll_cons ll_nil)))) (p_or1 (t_hasNot hu1 (e_var 1) (e_fld T.cls_Room (e_var 0))))))
 (b_one (s_raise T.x_NoBall tk))
 b_nil)
 (b_one (s_ret (e_item hu1 (e_fld T.cls_Room (e_var 0)) (e_var 1)))))
theorem ok_Room__leave (T : Txt K mg ec) (Df : MthF K ec "Room" "leave" "Room.leave" s_Room__leave ["self", "ball"])   (C_Room__where : CalM P wo K mg base ec "Room" "where" ["self", "ball"] f_Room__where 2) : CalM P wo K mg base ec "Room" "leave" ["self", "ball"] f_Room__leave 3 :=
  Df.calM fun F => fn_ok (k := 2) F sc_Room__leave c_Room__leave fun cdv A outer s H E hr tk hp => by
    have nd := sc_Room__leave.nd
    have hu := hr.units
    have hu1 := hu_of hr
    have hw := T.w
    exact (b_cons (s_set 2 nd (e_meth T.cls_Room C_Room__where (hr.mono (by decide)) tk (e_var 0) (l_cons (e_var 1) l_nil) (ll_cons ll_nil)))
 (b_cons (s_expr (e_dpop (e_fld T.cls_Room (e_var 0)) (e_var 1)))
 (b_cons (s_expr (e_append (e_fld T.cls_Room (e_var 0)) (a_cons (e_tup (a_cons e_bool (a_cons (e_var 1) (a_cons (e_var 2) a_nil))) (CLen.le (cl_cons (cl_cons (cl_cons cl_nil))) (by decide))) a_nil)))
 (b_one (s_ret (e_var 2))))))
theorem ok__law_leave_right (T : Txt K mg ec) (Df : DefF K mg "_law_leave_right" s__law_leave_right ["_law_room", "_law_world", "_law_ball_here"]) (LF : LamF K mg base ec "_law_leave_right" (("_law_leave_right" : Str) ++ ".<locals>." ++ "<lambda>")) (D__law_heard : DefF K mg "_law_heard" s__law_heard ["_law_asked"]) (H__law_heard : ∀ k : Nat, HeardOk P wo K mg base ec "_law_heard" "_law_asked" N__law_heard s__law_heard c__law_heard (k + 1))  (C_Room__where : CalM P wo K mg base ec "Room" "where" ["self", "ball"] f_Room__where 2) (C_Room__leave : CalM P wo K mg base ec "Room" "leave" ["self", "ball"] f_Room__leave 3) (C__law_is_whole : Cal P wo K mg base ec "_law_is_whole" ["_law_thing"] f__law_is_whole 1) : Cal P wo K mg base ec "_law_leave_right" ["_law_room", "_law_world", "_law_ball_here"] f__law_leave_right 6 := by
  obtain ⟨lc, lP, TB, mT, one, hcode⟩ := LF.ex
  exact Df.calL fun F hm lk => fn_okL (k := 5) F sc__law_leave_right c__law_leave_right (hcode _ _ _ _ _ hm lk) fun A outer s H E hr tk hp => by
    have nd := sc__law_leave_right.nd
    have hu := hr.units
    have hu1 := hu_of hr
    have hw := T.w
    exact (b_cons (s_set 3 nd (e_heard (k := 3) D__law_heard sc__law_heard (H__law_heard 3) (hr.mono (by decide)) TB rfl mT one (LamX.lamS_by (sc := defScope s__law_leave_right) (by decide +kernel)) (fun A outer t G E f c' hr => have hu := hr.units; have hu1 := hu_of hr; (e_meth T.cls_Room C_Room__leave (hr.mono (by decide)) takesL (e_var 0) (l_cons (e_var 2) l_nil) (ll_cons ll_nil)))))
 (b_cons (s_if (t_bop (p_or (t_not (t_of (e_callP C__law_is_whole (hr.mono (by decide)) tk (l_cons (e_var 2) l_nil) (ll_cons ll_nil)))) (p_or1 (t_hasNot hu1 (e_var 2) (e_itW hu1 (e_var 1))))))
 (b_one (s_ret (e_chain (op_eqV hu) (op_eqV hu) s_eq s_eq (e_var 3) e_str (e_heard (k := 3) D__law_heard sc__law_heard (H__law_heard 3) (hr.mono (by decide)) TB rfl mT one (LamX.lamS_by (sc := defScope s__law_leave_right) (by decide +kernel)) (fun A outer t G E f c' hr => have hu := hr.units; have hu1 := hu_of hr; (e_meth T.cls_Room C_Room__where (hr.mono (by decide)) takesL (e_var 0) (l_cons (e_var 2) l_nil) (ll_cons ll_nil)))))))
 b_nil)
 (b_cons (s_set 4 nd (e_dpop (e_itW hu1 (e_var 1)) (e_var 2)))
 (b_cons (s_expr (e_append (e_itW hu1 (e_var 1)) (a_cons (e_tup (a_cons e_str (a_cons (e_var 2) (a_cons (e_var 4) a_nil))) (CLen.le (cl_cons (cl_cons (cl_cons cl_nil))) (by decide))) a_nil)))
 (b_one (s_ret (e_and (e_cmp (op_eqV hu) s_eq (e_var 3) (e_lst (a_cons (e_var 4) a_nil) (CLen.le (cl_cons cl_nil) (by decide)))) (e_one (e_cmp (op_eqV hu) s_eq (e_heard (k := 3) D__law_heard sc__law_heard (H__law_heard 3) (hr.mono (by decide)) TB rfl mT one (LamX.lamS_by (sc := defScope s__law_leave_right) (by decide +kernel)) (fun A outer t G E f c' hr => have hu := hr.units; have hu1 := hu_of hr; (e_meth T.cls_Room C_Room__where (hr.mono (by decide)) takesL (e_var 0) (l_cons (e_var 2) l_nil) (ll_cons ll_nil)))) e_str)))))))))
theorem ok_Room__back (T : Txt K mg ec) (Df : MthF K ec "Room" "back" "Room.back" s_Room__back ["self"])    : CalM P wo K mg base ec "Room" "back" ["self"] f_Room__back 1 :=
  Df.calM fun F => fn_ok (k := 0) F sc_Room__back c_Room__back fun cdv A outer s H E hr tk hp => by
    have nd := sc_Room__back.nd
    have hu := hr.units
    have hu1 := hu_of hr
    have hw := T.w
    exact (b_cons (s_if (t_cmp (op_eqV hu) s_eq (e_fld T.cls_Room (e_var 0)) (e_lst a_nil (CLen.le cl_nil (by decide))))
 (b_one (s_raise T.x_NoBack tk))
 b_nil)
 (b_cons (s_asg (own := [1, 2, 3]) (e_pop0 (e_fld T.cls_Room (e_var 0))) (g_tup (gs_cons (g_name 1 nd (by decide)) (gs_cons (g_name 2 nd (by decide)) (gs_cons (g_name 3 nd (by decide)) gs_nil)))))
 (b_cons (s_if (t_of (e_var 1))
 (b_one (s_expr (e_dpop (e_fld T.cls_Room (e_var 0)) (e_var 2))))
 (b_one (s_dput hu1 (e_fld T.cls_Room (e_var 0)) (e_var 2) (e_var 3))))
 (b_one (s_ret (e_var 2))))))
theorem ok__law_back_right (T : Txt K mg ec) (Df : DefF K mg "_law_back_right" s__law_back_right ["_law_room", "_law_world"]) (LF : LamF K mg base ec "_law_back_right" (("_law_back_right" : Str) ++ ".<locals>." ++ "<lambda>")) (D__law_heard : DefF K mg "_law_heard" s__law_heard ["_law_asked"]) (H__law_heard : ∀ k : Nat, HeardOk P wo K mg base ec "_law_heard" "_law_asked" N__law_heard s__law_heard c__law_heard (k + 1))  (C_Room__back : CalM P wo K mg base ec "Room" "back" ["self"] f_Room__back 1) : Cal P wo K mg base ec "_law_back_right" ["_law_room", "_law_world"] f__law_back_right 4 := by
  obtain ⟨lc, lP, TB, mT, one, hcode⟩ := LF.ex
  exact Df.calL fun F hm lk => fn_okL (k := 3) F sc__law_back_right c__law_back_right (hcode _ _ _ _ _ hm lk) fun A outer s H E hr tk hp => by
    have nd := sc__law_back_right.nd
    have hu := hr.units
    have hu1 := hu_of hr
    have hw := T.w
    exact (b_cons (s_set 2 nd (e_heard (k := 1) D__law_heard sc__law_heard (H__law_heard 1) (hr.mono (by decide)) TB rfl mT one (LamX.lamS_by (sc := defScope s__law_back_right) (by decide +kernel)) (fun A outer t G E f c' hr => have hu := hr.units; have hu1 := hu_of hr; (e_meth0 T.cls_Room C_Room__back (hr.mono (by decide)) takesL (e_var 0)))))
 (b_cons (s_if (t_cmp (op_eqV hu) s_eq (e_itW hu1 (e_var 1)) (e_lst a_nil (CLen.le cl_nil (by decide))))
 (b_one (s_ret (e_cmp (op_eqV hu) s_eq (e_var 2) e_str)))
 b_nil)
 (b_cons (s_asg (own := [3, 4, 5]) (e_pop0 (e_itW hu1 (e_var 1))) (g_tup (gs_cons (g_name 3 nd (by decide)) (gs_cons (g_name 4 nd (by decide)) (gs_cons (g_name 5 nd (by decide)) gs_nil)))))
 (b_cons (s_if (t_cmp (op_eqV hu) s_eq (e_var 3) e_str)
 (b_one (s_expr (e_dpop (e_itW hu1 (e_var 1)) (e_var 4))))
 (b_one (s_dput hu1 (e_itW hu1 (e_var 1)) (e_var 4) (e_var 5))))
 (b_one (s_ret (e_cmp (op_eqV hu) s_eq (e_var 2) (e_lst (a_cons (e_var 4) a_nil) (CLen.le (cl_cons cl_nil) (by decide))))))))))
theorem ok_Room__load (T : Txt K mg ec) (Df : MthF K ec "Room" "load" "Room.load" s_Room__load ["self"])   (C_sorted_load : Cal P wo K mg base ec "sorted_load" ["numbers"] f_sorted_load 1) (C_Room__stand : CalM P wo K mg base ec "Room" "stand" ["self"] f_Room__stand 1) : CalM P wo K mg base ec "Room" "load" ["self"] f_Room__load 2 :=
  Df.calM fun F => fn_ok (k := 1) F sc_Room__load c_Room__load fun cdv A outer s H E hr tk hp => by
    have nd := sc_Room__load.nd
    have hu := hr.units
    have hu1 := hu_of hr
    have hw := T.w
    exact (b_one (s_ret (e_callP C_sorted_load (hr.mono (by decide)) tk (l_cons (e_meth0 T.cls_Room C_Room__stand (hr.mono (by decide)) tk (e_var 0)) l_nil) (ll_cons ll_nil))))
theorem ok__law_shown_right (T : Txt K mg ec) (Df : DefF K mg "_law_shown_right" s__law_shown_right ["_law_room", "_law_world"])   (C_Room__where : CalM P wo K mg base ec "Room" "where" ["self", "ball"] f_Room__where 2) (C_Room__stand : CalM P wo K mg base ec "Room" "stand" ["self"] f_Room__stand 1) (C_Room__load : CalM P wo K mg base ec "Room" "load" ["self"] f_Room__load 2) (C__law_counts : Cal P wo K mg base ec "_law_counts" ["_law_world"] f__law_counts 1) : Cal P wo K mg base ec "_law_shown_right" ["_law_room", "_law_world"] f__law_shown_right 3 :=
  Df.cal fun F => fn_ok (k := 2) F sc__law_shown_right c__law_shown_right fun cdv A outer s H E hr tk hp => by
    have nd := sc__law_shown_right.nd
    have hu := hr.units
    have hu1 := hu_of hr
    have hw := T.w
    exact (b_cons (s_set 2 nd (e_callC C__law_counts (hr.mono (by decide)) tk (l_cons (e_var 1) l_nil) (ll_cons ll_nil)))
 (b_cons (s_if (t_bop (p_or (t_cmp (op_neV hu) s_ne (e_meth0 T.cls_Room C_Room__stand (hr.mono (by decide)) tk (e_var 0)) (e_callT1 call_tuple_of s_tuple T.z_tuple (by decide +kernel) (e_var 2))) (p_or1 (t_cmp (op_neV hu) s_ne (e_meth0 T.cls_Room C_Room__load (hr.mono (by decide)) tk (e_var 0)) (e_callT1 call_tuple_of s_tuple T.z_tuple (by decide +kernel) (e_sortedR T.z_sorted (e_var 2)))))))
 (b_one (s_ret e_bool))
 b_nil)
 (b_one (s_ret (e_lkE (pkF 1 "lying") (e_call1 (cr_all rfl) s_all T.z_all (by decide +kernel) (e_lc (own := [("_law_ball_here", 3)]) nd (blkOk_by (own := [("_law_ball_here", 3)]) (N := N__law_shown_right) (sc := defScope s__law_shown_right) (by decide +kernel)) (i_keysL (e_itW hu1 (e_var 1))) (fun _ _ _ _ _ => (g_name 3 nd (by decide))) (fun _ _ _ _ _ => ts_nil) (fun _ _ _ _ _ => (e_cmp (op_eqV hu) s_eq (e_meth T.cls_Room C_Room__where (hr.mono (by decide)) takes0 (e_var 0) (l_cons (e_var 3) l_nil) (ll_cons ll_nil)) (e_item hu1 (e_itW hu1 (e_var 1)) (e_var 3)))))))))))
theorem ok__law_ball (T : Txt K mg ec) (Df : DefF K mg "_law_ball" s__law_ball ["_law_pen_here", "_law_world"])   (C__law_draw : Cal P wo K mg base ec "_law_draw" ["_law_pen_here", "_law_many"] f__law_draw 1) : Cal P wo K mg base ec "_law_ball" ["_law_pen_here", "_law_world"] f__law_ball 2 :=
  Df.cal fun F => fn_ok (k := 1) F sc__law_ball c__law_ball fun cdv A outer s H E hr tk hp => by
    have nd := sc__law_ball.nd
    have hu := hr.units
    have hu1 := hu_of hr
    have hw := T.w
    exact (b_cons (s_set 2 nd (e_callC C__law_draw (hr.mono (by decide)) tk (l_cons (e_var 0) (l_cons e_int l_nil)) (ll_cons (ll_cons ll_nil))))
 (b_cons (s_set 3 nd (e_callC C__law_draw (hr.mono (by decide)) tk (l_cons (e_var 0) (l_cons e_int l_nil)) (ll_cons (ll_cons ll_nil))))
 (b_cons (s_set 4 nd (e_call1 cr_sortedI s_sorted T.z_sorted (by decide +kernel) (e_listK T.z_list (e_itW hu1 (e_var 1)))))
 (b_cons (s_if (t_bop (p_and (t_cmp (OpR.or op_lt (op_ltV hu)) s_ord (e_var 2) e_int) (p_and1 (t_cmp (op_neV hu) s_ne (e_var 4) (e_lst a_nil (CLen.le cl_nil (by decide)))))))
 (b_one (s_ret (e_ixR ixr_V s_ix (e_var 4) (e_callC C__law_draw (hr.mono (by decide)) tk (l_cons (e_var 0) (l_cons (e_call1 call_lenV s_len T.z_len PySem.boot_len (e_var 4)) l_nil)) (ll_cons (ll_cons ll_nil))))))
 b_nil)
 (b_cons (s_if (t_cmp (op_eqV hu) s_eq (e_var 2) e_int)
 (b_one (s_ret (e_callC C__law_draw (hr.mono (by decide)) tk (l_cons (e_var 0) (l_cons (e_bin or_add s_add (e_itW hu1 (e_var 1)) e_int) l_nil)) (ll_cons (ll_cons ll_nil)))))
 b_nil)
 (b_one (s_ret (e_ixR ixr_V s_ix (e_lst (a_cons e_none (a_cons e_bool (a_cons e_bool (a_cons e_str (a_cons (e_lst a_nil (CLen.le cl_nil (by decide))) (a_cons (e_tup (a_cons e_int a_nil) (CLen.le (cl_cons cl_nil) (by decide))) (a_cons e_newK (a_cons (e_un un_neg s_neg e_int) (a_cons (e_bin op_pow s_pow e_int e_int) (a_cons (e_itW hu1 (e_var 1)) (a_cons (e_lst (a_cons e_int a_nil) (CLen.le (cl_cons cl_nil) (by decide))) (a_cons e_str a_nil)))))))))))) (CLen.le (cl_cons (cl_cons (cl_cons (cl_cons (cl_cons (cl_cons (cl_cons (cl_cons (cl_cons (cl_cons (cl_cons (cl_cons cl_nil)))))))))))) (by decide))) (e_var 3)))))))))
theorem ok__law_deed_right (T : Txt K mg ec) (Df : DefF K mg "_law_deed_right" s__law_deed_right ["_law_pen_here", "_law_room", "_law_world"])   (C__law_draw : Cal P wo K mg base ec "_law_draw" ["_law_pen_here", "_law_many"] f__law_draw 1) (C__law_put_right : Cal P wo K mg base ec "_law_put_right" ["_law_room", "_law_world", "_law_draw_here"] f__law_put_right 5) (C__law_leave_right : Cal P wo K mg base ec "_law_leave_right" ["_law_room", "_law_world", "_law_ball_here"] f__law_leave_right 6) (C__law_back_right : Cal P wo K mg base ec "_law_back_right" ["_law_room", "_law_world"] f__law_back_right 4) (C__law_ball : Cal P wo K mg base ec "_law_ball" ["_law_pen_here", "_law_world"] f__law_ball 2) : Cal P wo K mg base ec "_law_deed_right" ["_law_pen_here", "_law_room", "_law_world"] f__law_deed_right 7 :=
  Df.cal fun F => fn_ok (k := 6) F sc__law_deed_right c__law_deed_right fun cdv A outer s H E hr tk hp => by
    have nd := sc__law_deed_right.nd
    have hu := hr.units
    have hu1 := hu_of hr
    have hw := T.w
    exact (b_cons (s_set 3 nd (e_callC C__law_draw (hr.mono (by decide)) tk (l_cons (e_var 0) (l_cons e_int l_nil)) (ll_cons (ll_cons ll_nil))))
 (b_cons (s_set 4 nd (e_bin or_add s_add e_int (e_callC C__law_draw (hr.mono (by decide)) tk (l_cons (e_var 0) (l_cons e_int l_nil)) (ll_cons (ll_cons ll_nil)))))
 (b_cons (s_if (t_cmp (OpR.or op_lt (op_ltV hu)) s_ord (e_var 3) e_int)
 (b_one (s_ret (e_callC C__law_put_right (hr.mono (by decide)) tk (l_cons (e_var 1) (l_cons (e_var 2) (l_cons (e_callT1 call_tuple_of s_tuple T.z_tuple (by decide +kernel) (e_lc (own := [("_law_k", 5)]) nd (blkOk_by (own := [("_law_k", 5)]) (N := N__law_deed_right) (sc := defScope s__law_deed_right) (by decide +kernel)) (i_range1 (e_var 4) T.z_range) (fun _ _ _ _ _ => (g_name 5 nd (by decide))) (fun _ _ _ _ _ => ts_nil) (fun _ _ _ _ _ => (e_callC C__law_draw (hr.mono (by decide)) takes0 (l_cons (e_var 0) (l_cons (e_itW hu1 (e_var 2)) l_nil)) (ll_cons (ll_cons ll_nil)))))) l_nil))) (ll_cons (ll_cons (ll_cons ll_nil))))))
 b_nil)
 (b_cons (s_if (t_cmp (OpR.or op_lt (op_ltV hu)) s_ord (e_var 3) e_int)
 (b_one (s_ret (e_callC C__law_leave_right (hr.mono (by decide)) tk (l_cons (e_var 1) (l_cons (e_var 2) (l_cons (e_callC C__law_ball (hr.mono (by decide)) tk (l_cons (e_var 0) (l_cons (e_var 2) l_nil)) (ll_cons (ll_cons ll_nil))) l_nil))) (ll_cons (ll_cons (ll_cons ll_nil))))))
 b_nil)
 (b_one (s_ret (e_callC C__law_back_right (hr.mono (by decide)) tk (l_cons (e_var 1) (l_cons (e_var 2) l_nil)) (ll_cons (ll_cons ll_nil)))))))))
theorem ok__law_full_right (T : Txt K mg ec) (Df : DefF K mg "_law_full_right" s__law_full_right ["_law_pen_here", "_law_n"])  (MK_Room : MkRoom P wo K mg base ec) (C__law_draw : Cal P wo K mg base ec "_law_draw" ["_law_pen_here", "_law_many"] f__law_draw 1) (C__law_put_right : Cal P wo K mg base ec "_law_put_right" ["_law_room", "_law_world", "_law_draw_here"] f__law_put_right 5) (C__law_leave_right : Cal P wo K mg base ec "_law_leave_right" ["_law_room", "_law_world", "_law_ball_here"] f__law_leave_right 6) (C__law_back_right : Cal P wo K mg base ec "_law_back_right" ["_law_room", "_law_world"] f__law_back_right 4) (C__law_shown_right : Cal P wo K mg base ec "_law_shown_right" ["_law_room", "_law_world"] f__law_shown_right 3) : Cal P wo K mg base ec "_law_full_right" ["_law_pen_here", "_law_n"] f__law_full_right 7 :=
  Df.cal fun F => fn_ok (k := 6) F sc__law_full_right c__law_full_right fun cdv A outer s H E hr tk hp => by
    have nd := sc__law_full_right.nd
    have hu := hr.units
    have hu1 := hu_of hr
    have hw := T.w
    exact (b_cons (s_setM 2 nd (e_mkRoomX T.cls_Room MK_Room (hr.r.mono (by decide)) (l_cons (e_var 1) l_nil)))
 (b_cons (s_setM 3 nd (e_dispW (dpw_cons (e_var 1) (dpw_cons e_newK (dpw_cons e_int (dpw_cons (e_lst a_nil (CLen.le cl_nil (by decide))) dpw_nil))))))
 (b_cons (s_for (own := [4]) hp (i_range1 e_int T.z_range) (g_name 4 nd (by decide))
 (b_one (s_if (t_not (t_of (e_callC C__law_put_right (hr.mono (by decide)) tk (l_cons (e_var 2) (l_cons (e_var 3) (l_cons (e_tup (a_cons (e_callC C__law_draw (hr.mono (by decide)) tk (l_cons (e_var 0) (l_cons (e_var 1) l_nil)) (ll_cons (ll_cons ll_nil))) (a_cons (e_callC C__law_draw (hr.mono (by decide)) tk (l_cons (e_var 0) (l_cons (e_var 1) l_nil)) (ll_cons (ll_cons ll_nil))) a_nil)) (CLen.le (cl_cons (cl_cons cl_nil)) (by decide))) l_nil))) (ll_cons (ll_cons (ll_cons ll_nil))))))
 (b_one (s_ret e_bool))
 b_nil)))
 (b_cons (s_set 5 nd (e_callC C__law_draw (hr.mono (by decide)) tk (l_cons (e_var 0) (l_cons e_int l_nil)) (ll_cons (ll_cons ll_nil))))
 (b_cons (s_if (t_bop (p_or (t_not (t_of (e_callC C__law_leave_right (hr.mono (by decide)) tk (l_cons (e_var 2) (l_cons (e_var 3) (l_cons (e_var 5) l_nil))) (ll_cons (ll_cons (ll_cons ll_nil)))))) (p_or1 (t_not (t_of (e_callC C__law_put_right (hr.mono (by decide)) tk (l_cons (e_var 2) (l_cons (e_var 3) (l_cons (e_tup (a_cons e_int a_nil) (CLen.le (cl_cons cl_nil) (by decide))) l_nil))) (ll_cons (ll_cons (ll_cons ll_nil)))))))))
 (b_one (s_ret e_bool))
 b_nil)
 (b_cons (s_if (t_bop (p_or (t_not (t_of (e_callC C__law_put_right (hr.mono (by decide)) tk (l_cons (e_var 2) (l_cons (e_var 3) (l_cons (e_tup (a_cons e_int a_nil) (CLen.le (cl_cons cl_nil) (by decide))) l_nil))) (ll_cons (ll_cons (ll_cons ll_nil)))))) (p_or (t_not (t_of (e_callC C__law_back_right (hr.mono (by decide)) tk (l_cons (e_var 2) (l_cons (e_var 3) l_nil)) (ll_cons (ll_cons ll_nil))))) (p_or1 (t_not (t_of (e_callC C__law_back_right (hr.mono (by decide)) tk (l_cons (e_var 2) (l_cons (e_var 3) l_nil)) (ll_cons (ll_cons ll_nil)))))))))
 (b_one (s_ret e_bool))
 b_nil)
 (b_one (s_ret (e_and (e_callC C__law_shown_right (hr.mono (by decide)) tk (l_cons (e_var 2) (l_cons (e_var 3) l_nil)) (ll_cons (ll_cons ll_nil))) (e_one (e_callC C__law_put_right (hr.mono (by decide)) tk (l_cons (e_var 2) (l_cons (e_var 3) (l_cons (e_tup (a_cons e_int a_nil) (CLen.le (cl_cons cl_nil) (by decide))) l_nil))) (ll_cons (ll_cons (ll_cons ll_nil))))))))))))))
theorem ok__law_long_right (T : Txt K mg ec) (Df : DefF K mg "_law_long_right" s__law_long_right ["_law_pen_here", "_law_n"])  (MK_Room : MkRoom P wo K mg base ec) (C__law_draw : Cal P wo K mg base ec "_law_draw" ["_law_pen_here", "_law_many"] f__law_draw 1) (C__law_put_right : Cal P wo K mg base ec "_law_put_right" ["_law_room", "_law_world", "_law_draw_here"] f__law_put_right 5) (C__law_leave_right : Cal P wo K mg base ec "_law_leave_right" ["_law_room", "_law_world", "_law_ball_here"] f__law_leave_right 6) (C__law_back_right : Cal P wo K mg base ec "_law_back_right" ["_law_room", "_law_world"] f__law_back_right 4) (C__law_shown_right : Cal P wo K mg base ec "_law_shown_right" ["_law_room", "_law_world"] f__law_shown_right 3) : Cal P wo K mg base ec "_law_long_right" ["_law_pen_here", "_law_n"] f__law_long_right 7 :=
  Df.cal fun F => fn_ok (k := 6) F sc__law_long_right c__law_long_right fun cdv A outer s H E hr tk hp => by
    have nd := sc__law_long_right.nd
    have hu := hr.units
    have hu1 := hu_of hr
    have hw := T.w
    exact (b_cons (s_setM 2 nd (e_mkRoomX T.cls_Room MK_Room (hr.r.mono (by decide)) (l_cons (e_var 1) l_nil)))
 (b_cons (s_setM 3 nd (e_dispW (dpw_cons (e_var 1) (dpw_cons e_newK (dpw_cons e_int (dpw_cons (e_lst a_nil (CLen.le cl_nil (by decide))) dpw_nil))))))
 (b_cons (s_for (own := [4]) hp (i_range1 e_int T.z_range) (g_name 4 nd (by decide))
 (b_cons (s_if (t_not (t_of (e_callC C__law_put_right (hr.mono (by decide)) tk (l_cons (e_var 2) (l_cons (e_var 3) (l_cons (e_tup (a_cons (e_callC C__law_draw (hr.mono (by decide)) tk (l_cons (e_var 0) (l_cons (e_var 1) l_nil)) (ll_cons (ll_cons ll_nil))) (a_cons (e_callC C__law_draw (hr.mono (by decide)) tk (l_cons (e_var 0) (l_cons (e_var 1) l_nil)) (ll_cons (ll_cons ll_nil))) a_nil)) (CLen.le (cl_cons (cl_cons cl_nil)) (by decide))) l_nil))) (ll_cons (ll_cons (ll_cons ll_nil))))))
 (b_one (s_ret e_bool))
 b_nil)
 (b_cons (s_set 5 nd (e_call1 cr_sortedI s_sorted T.z_sorted (by decide +kernel) (e_listK T.z_list (e_itW hu1 (e_var 3)))))
 (b_one (s_if (t_bop (p_and (t_cmp (OpR.or op_gt (op_gtV hu)) s_ord (e_call1 call_lenV s_len T.z_len PySem.boot_len (e_var 5)) e_int) (p_and1 (t_not (t_of (e_callC C__law_leave_right (hr.mono (by decide)) tk (l_cons (e_var 2) (l_cons (e_var 3) (l_cons (e_ixR ixr_V s_ix (e_var 5) (e_callC C__law_draw (hr.mono (by decide)) tk (l_cons (e_var 0) (l_cons (e_call1 call_lenV s_len T.z_len PySem.boot_len (e_var 5)) l_nil)) (ll_cons (ll_cons ll_nil)))) l_nil))) (ll_cons (ll_cons (ll_cons ll_nil)))))))))
 (b_one (s_ret e_bool))
 b_nil)))))
 (b_cons (s_while (fun _ => 1000000) hp (t_cmp (op_neV hu) s_ne (e_itW hu1 (e_var 3)) (e_lst a_nil (CLen.le cl_nil (by decide))))
 (b_one (s_if (t_not (t_of (e_callC C__law_back_right (hr.mono (by decide)) tk (l_cons (e_var 2) (l_cons (e_var 3) l_nil)) (ll_cons (ll_cons ll_nil)))))
 (b_one (s_ret e_bool))
 b_nil)))
 (b_cons (s_if (t_bop (p_or (t_not (t_of (e_callC C__law_shown_right (hr.mono (by decide)) tk (l_cons (e_var 2) (l_cons (e_var 3) l_nil)) (ll_cons (ll_cons ll_nil))))) (p_or1 (t_not (t_of (e_callC C__law_back_right (hr.mono (by decide)) tk (l_cons (e_var 2) (l_cons (e_var 3) l_nil)) (ll_cons (ll_cons ll_nil))))))))
 (b_one (s_ret e_bool))
 b_nil)
 (b_one (s_ret (e_callC C__law_put_right (hr.mono (by decide)) tk (l_cons (e_var 2) (l_cons (e_var 3) (l_cons (e_tup (a_cons e_int a_nil) (CLen.le (cl_cons cl_nil) (by decide))) l_nil))) (ll_cons (ll_cons (ll_cons ll_nil)))))))))))
theorem ok_law (T : Txt K mg ec) (Df : DefF K mg "law" s_law ["_law_script"])  (MK_Room : MkRoom P wo K mg base ec) (C__law_pen : Cal P wo K mg base ec "_law_pen" ["_law_script"] f__law_pen 1) (C__law_draw : Cal P wo K mg base ec "_law_draw" ["_law_pen_here", "_law_many"] f__law_draw 1) (C__law_put_right : Cal P wo K mg base ec "_law_put_right" ["_law_room", "_law_world", "_law_draw_here"] f__law_put_right 5) (C__law_back_right : Cal P wo K mg base ec "_law_back_right" ["_law_room", "_law_world"] f__law_back_right 4) (C__law_shown_right : Cal P wo K mg base ec "_law_shown_right" ["_law_room", "_law_world"] f__law_shown_right 3) (C__law_deed_right : Cal P wo K mg base ec "_law_deed_right" ["_law_pen_here", "_law_room", "_law_world"] f__law_deed_right 7) (C__law_full_right : Cal P wo K mg base ec "_law_full_right" ["_law_pen_here", "_law_n"] f__law_full_right 7) (C__law_long_right : Cal P wo K mg base ec "_law_long_right" ["_law_pen_here", "_law_n"] f__law_long_right 7) : Cal P wo K mg base ec "law" ["_law_script"] f_law 8 :=
  Df.cal fun F => fn_ok (k := 7) F sc_law c_law fun cdv A outer s H E hr tk hp => by
    have nd := sc_law.nd
    have hu := hr.units
    have hu1 := hu_of hr
    have hw := T.w
    exact (b_cons (s_setM 1 nd (e_callP C__law_pen (hr.mono (by decide)) tk (l_cons (e_var 0) l_nil) (ll_cons ll_nil)))
 (b_cons (s_set 2 nd (e_callC C__law_draw (hr.mono (by decide)) tk (l_cons (e_var 1) (l_cons e_int l_nil)) (ll_cons (ll_cons ll_nil))))
 (b_growP 3 5 (own := [4]) nd hp e_int T.z_range (g_name 4 nd (by decide)) (e_bin or_add s_add e_int (e_callC C__law_draw (hr.mono (by decide)) tk (l_cons (e_var 1) (l_cons e_int l_nil)) (ll_cons (ll_cons ll_nil)))) (e_tupN (n_cons (e_mkRoomX T.cls_Room MK_Room (hr.r.mono (by decide)) (l_cons (e_var 5) l_nil)) (n_cons (e_dispW (dpw_cons (e_var 5) (dpw_cons e_newK (dpw_cons e_int (dpw_cons (e_lst a_nil (CLen.le cl_nil (by decide))) dpw_nil))))) n_nil)) (nl_cons (nl_cons nl_nil)))
 (b_cons (s_for (own := [4]) hp (i_range1 e_int T.z_range) (g_name 4 nd (by decide))
 (b_cons (s_unT 6 7 nd (e_ixT (e_var 3) (e_callT1 call_int1 s_int T.z_int (by decide +kernel) (e_cmp (op_eqV hu) s_eq (e_callC C__law_draw (hr.mono (by decide)) tk (l_cons (e_var 1) (l_cons e_int l_nil)) (ll_cons (ll_cons ll_nil))) e_int))))
 (b_cons (s_if (t_not (t_of (e_callC C__law_deed_right (hr.mono (by decide)) tk (l_cons (e_var 1) (l_cons (e_var 6) (l_cons (e_var 7) l_nil))) (ll_cons (ll_cons (ll_cons ll_nil))))))
 (b_one (s_ret e_bool))
 b_nil)
 (b_one (s_if (t_not (t_of (e_call1 (cr_all rfl) s_all T.z_all (by decide +kernel) (e_lcP (own := [("_law_one", 8), ("_law_other", 9)]) nd (blkOk_by (own := [("_law_one", 8), ("_law_other", 9)]) (N := N_law) (sc := defScope s_law) (by decide +kernel)) (i_T (e_var 3)) (fun _ _ _ _ _ => (g_tupP 8 9 nd (by decide) (by decide))) (fun _ _ _ _ _ => ts_nil) (fun _ _ _ _ _ => (e_callC C__law_shown_right (hr.mono (by decide)) takes0 (l_cons (e_var 8) (l_cons (e_var 9) l_nil)) (ll_cons (ll_cons ll_nil))))))))
 (b_one (s_ret e_bool))
 b_nil)))))
 (b_cons (s_for (own := [4]) hp (i_range1 (e_bin or_add s_add (e_call1 call_lenV s_len T.z_len PySem.boot_len (e_itW hu1 (e_ixT (e_ixT (e_var 3) e_int) e_int))) e_int) T.z_range) (g_name 4 nd (by decide))
 (b_one (s_if (t_not (t_of (e_callC C__law_back_right (hr.mono (by decide)) tk (l_cons (e_ixT (e_ixT (e_var 3) e_int) e_int) (l_cons (e_ixT (e_ixT (e_var 3) e_int) e_int) l_nil)) (ll_cons (ll_cons ll_nil)))))
 (b_one (s_ret e_bool))
 b_nil)))
 (b_cons (s_if (t_not (t_of (e_callC C__law_put_right (hr.mono (by decide)) tk (l_cons (e_ixT (e_ixT (e_var 3) e_int) e_int) (l_cons (e_ixT (e_ixT (e_var 3) e_int) e_int) (l_cons (e_tup (a_cons e_int a_nil) (CLen.le (cl_cons cl_nil) (by decide))) l_nil))) (ll_cons (ll_cons (ll_cons ll_nil))))))
 (b_one (s_ret e_bool))
 b_nil)
 (b_cons (s_if (t_cmp (op_eqV hu) s_eq (e_var 2) e_int)
 (b_one (s_ret (e_callC C__law_long_right (hr.mono (by decide)) tk (l_cons (e_var 1) (l_cons (e_bin or_add s_add e_int (e_callC C__law_draw (hr.mono (by decide)) tk (l_cons (e_var 1) (l_cons e_int l_nil)) (ll_cons (ll_cons ll_nil)))) l_nil)) (ll_cons (ll_cons ll_nil)))))
 b_nil)
 (b_one (s_ret (e_or (e_cmp (OpR.or op_gt (op_gtV hu)) s_ord (e_var 2) e_int) (e_one (e_callC C__law_full_right (hr.mono (by decide)) tk (l_cons (e_var 1) (l_cons (e_bin or_add s_add e_int (e_callC C__law_draw (hr.mono (by decide)) tk (l_cons (e_var 1) (l_cons e_int l_nil)) (ll_cons (ll_cons ll_nil)))) l_nil)) (ll_cons (ll_cons ll_nil))))))))))))))
end
theorem all_mk {l : PySem.W.OpenLaw} {w : World} {K : Fg} {h : Heap} {mg : Str → Option Value} {fa : Addr} (X : K.In h) (G : h.Ns mainGlobals mg) (hfa : mg "law" = some (.ref fa))
    {a0 a1 a2 a3 a4 a5 a6 a7 a8 a9 a10 a11 a12 a13 a14 a15 a16 a17 a18 a19 a20 a21 a22 : Addr} {od0 an0 od1 an1 od2 an2 od3 an3 od4 an4 od5 an5 od6 an6 od7 an7 od8 an8 od9 an9 od10 an10 od11 an11 od12 an12 od13 an13 od14 an14 od15 an15 od16 an16 od17 an17 od18 an18 od19 an19 od20 an20 od21 an21 od22 an22 : Option Addr} {sl0 sl1 sl2 sl3 sl4 sl5 sl6 sl7 sl8 sl9 sl10 sl11 sl12 sl13 sl14 sl15 sl16 sl17 sl18 sl19 sl20 sl21 sl22 : Array (Option Value)} {oc0 kV0 dc0 pm0 cd0 ct0 oc1 kV1 dc1 pm1 cd1 ct1 oc2 kV2 dc2 pm2 cd2 ct2 oc3 kV3 dc3 pm3 cd3 ct3 oc4 kV4 dc4 pm4 cd4 ct4 oc5 kV5 dc5 pm5 cd5 ct5 oc6 kV6 dc6 pm6 cd6 ct6 oc7 kV7 dc7 pm7 cd7 ct7 oc8 kV8 dc8 pm8 cd8 ct8 oc9 kV9 dc9 pm9 cd9 ct9 oc10 kV10 dc10 pm10 cd10 ct10 oc11 kV11 dc11 pm11 cd11 ct11 oc12 kV12 dc12 pm12 cd12 ct12 oc13 kV13 dc13 pm13 cd13 ct13 oc14 kV14 dc14 pm14 cd14 ct14 oc15 kV15 dc15 pm15 cd15 ct15 oc16 kV16 dc16 pm16 cd16 ct16 oc17 kV17 dc17 pm17 cd17 ct17 oc18 kV18 dc18 pm18 cd18 ct18 oc19 kV19 dc19 pm19 cd19 ct19 oc20 kV20 dc20 pm20 cd20 ct20 oc21 kV21 dc21 pm21 cd21 ct21 oc22 kV22 dc22 pm22 cd22 ct22 : Value} {xNoBack xNoBall xTooMany : Addr}
    {t_MOST_BALLS : Tok}
    {d_BallError d_Fuller d_NoBack d_NoBall d_NoName d_NoRow d_NoShare d_NoText d_TooMany d_Unlike : Addr}
    {k10 P10 k13 P13 k15 P15 : Addr} {ko10 ko13 ko15 : Value} {kd10 kd13 kd15 : Option Addr} {kv10 kv13 kv15 : Array Value} {ks10 ks13 ks15 : Array (Option Value)} {ts : List Addr} (hts : ∀ P ∈ ts, h.get? P = some (PySem.W.tabObj #[]))
    {C_Room f0_Room : Addr} {fod_Room fan_Room : Option Addr} {fsl_Room : Array (Option Value)} {foc_Room fkV_Room fdc_Room fpm_Room fcd_Room fct_Room : Value} (ca_Room : PySem.W.nsIn K mainGlobals "Room" = some (some (.ref C_Room)))
    (ci_Room : PySem.W.findIn K (.ref C_Room) "__init__" = some (some (.ref f0_Room))) (cf_Room : PySem.W.isFn K (.ref f0_Room) = true) (cl_Room : K.lookup f0_Room = some ⟨foc_Room, fod_Room, .func (PySem.W.fnOf "__init__" "Room.__init__" (defArgs (inClass (topS 19) 0)) (defBody (inClass (topS 19) 0)) (defScope (inClass (topS 19) 0)) .none fkV_Room fdc_Room fpm_Room fan_Room fcd_Room fct_Room), fsl_Room⟩) (cc_Room : PySem.W.codeIn K fcd_Room "Room.__init__" = true) (ck_Room : PySem.W.keepIn K (.ref f0_Room) = true)
    (cp_Room : PySem.W.plainGet K C_Room Str.empty = true)
    (cd_Room : PySem.W.hasDictIn K C_Room = true)
    (co_Room : PySem.W.plainOver K C_Room = true)
    (cs_Room : PySem.W.findIn K (.ref C_Room) "__setattr__" = some (some (.builtin "object.__setattr__")))
    (cm_Room : PySem.W.makesIn K C_Room = true)
    (cq_Room : PySem.W.keepIn K (.ref C_Room) = true)
    (cn_Room_many : PySem.W.findIn K (.ref C_Room) "many" = some none)
    (cn_Room_lying : PySem.W.findIn K (.ref C_Room) "lying" = some none)
    (cn_Room_known : PySem.W.findIn K (.ref C_Room) "known" = some none)
    (cn_Room_past : PySem.W.findIn K (.ref C_Room) "past" = some none)
    (a_0 : PySem.W.nsIn K mainGlobals "chosen" = some (some (.ref a0))) (l_0 : K.lookup a0 = some ⟨oc0, od0, .func (PySem.W.fnOf "chosen" "chosen" (defArgs s_chosen) (defBody s_chosen) (defScope s_chosen) .none kV0 dc0 pm0 an0 cd0 ct0), sl0⟩) (c_0 : PySem.W.codeIn K cd0 "chosen" = true) (k_0 : PySem.W.keepIn K (.ref a0) = true)
    (a_1 : PySem.W.nsIn K mainGlobals "is_whole" = some (some (.ref a1))) (l_1 : K.lookup a1 = some ⟨oc1, od1, .func (PySem.W.fnOf "is_whole" "is_whole" (defArgs s_is_whole) (defBody s_is_whole) (defScope s_is_whole) .none kV1 dc1 pm1 an1 cd1 ct1), sl1⟩) (c_1 : PySem.W.codeIn K cd1 "is_whole" = true) (k_1 : PySem.W.keepIn K (.ref a1) = true)
    (a_2 : PySem.W.nsIn K mainGlobals "sorted_load" = some (some (.ref a2))) (l_2 : K.lookup a2 = some ⟨oc2, od2, .func (PySem.W.fnOf "sorted_load" "sorted_load" (defArgs s_sorted_load) (defBody s_sorted_load) (defScope s_sorted_load) .none kV2 dc2 pm2 an2 cd2 ct2), sl2⟩) (c_2 : PySem.W.codeIn K cd2 "sorted_load" = true) (k_2 : PySem.W.keepIn K (.ref a2) = true)
    (a_3 : PySem.W.nsIn K mainGlobals "_law_pen" = some (some (.ref a3))) (l_3 : K.lookup a3 = some ⟨oc3, od3, .func (PySem.W.fnOf "_law_pen" "_law_pen" (defArgs s__law_pen) (defBody s__law_pen) (defScope s__law_pen) .none kV3 dc3 pm3 an3 cd3 ct3), sl3⟩) (c_3 : PySem.W.codeIn K cd3 "_law_pen" = true) (k_3 : PySem.W.keepIn K (.ref a3) = true)
    (a_4 : PySem.W.nsIn K mainGlobals "_law_draw" = some (some (.ref a4))) (l_4 : K.lookup a4 = some ⟨oc4, od4, .func (PySem.W.fnOf "_law_draw" "_law_draw" (defArgs s__law_draw) (defBody s__law_draw) (defScope s__law_draw) .none kV4 dc4 pm4 an4 cd4 ct4), sl4⟩) (c_4 : PySem.W.codeIn K cd4 "_law_draw" = true) (k_4 : PySem.W.keepIn K (.ref a4) = true)
    (a_5 : PySem.W.nsIn K mainGlobals "_law_is_whole" = some (some (.ref a5))) (l_5 : K.lookup a5 = some ⟨oc5, od5, .func (PySem.W.fnOf "_law_is_whole" "_law_is_whole" (defArgs s__law_is_whole) (defBody s__law_is_whole) (defScope s__law_is_whole) .none kV5 dc5 pm5 an5 cd5 ct5), sl5⟩) (c_5 : PySem.W.codeIn K cd5 "_law_is_whole" = true) (k_5 : PySem.W.keepIn K (.ref a5) = true)
    (a_6 : PySem.W.nsIn K mainGlobals "_law_heard" = some (some (.ref a6))) (l_6 : K.lookup a6 = some ⟨oc6, od6, .func (PySem.W.fnOf "_law_heard" "_law_heard" (defArgs s__law_heard) (defBody s__law_heard) (defScope s__law_heard) .none kV6 dc6 pm6 an6 cd6 ct6), sl6⟩) (c_6 : PySem.W.codeIn K cd6 "_law_heard" = true) (k_6 : PySem.W.keepIn K (.ref a6) = true)
    (a_7 : PySem.W.nsIn K mainGlobals "_law_counts" = some (some (.ref a7))) (l_7 : K.lookup a7 = some ⟨oc7, od7, .func (PySem.W.fnOf "_law_counts" "_law_counts" (defArgs s__law_counts) (defBody s__law_counts) (defScope s__law_counts) .none kV7 dc7 pm7 an7 cd7 ct7), sl7⟩) (c_7 : PySem.W.codeIn K cd7 "_law_counts" = true) (k_7 : PySem.W.keepIn K (.ref a7) = true)
    (a_8 : PySem.W.findIn K (.ref C_Room) "stand" = some (some (.ref a8))) (i_8 : PySem.W.isFn K (.ref a8) = true) (l_8 : K.lookup a8 = some ⟨oc8, od8, .func (PySem.W.fnOf "stand" "Room.stand" (defArgs s_Room__stand) (defBody s_Room__stand) (defScope s_Room__stand) .none kV8 dc8 pm8 an8 cd8 ct8), sl8⟩) (c_8 : PySem.W.codeIn K cd8 "Room.stand" = true) (k_8 : PySem.W.keepIn K (.ref a8) = true)
    (a_9 : PySem.W.findIn K (.ref C_Room) "put" = some (some (.ref a9))) (i_9 : PySem.W.isFn K (.ref a9) = true) (l_9 : K.lookup a9 = some ⟨oc9, od9, .func (PySem.W.fnOf "put" "Room.put" (defArgs s_Room__put) (defBody s_Room__put) (defScope s_Room__put) .none kV9 dc9 pm9 an9 cd9 ct9), sl9⟩) (c_9 : PySem.W.codeIn K cd9 "Room.put" = true) (k_9 : PySem.W.keepIn K (.ref a9) = true)
    (a_10 : PySem.W.nsIn K mainGlobals "_law_put_right" = some (some (.ref a10))) (l_10 : K.lookup a10 = some ⟨oc10, od10, .func (PySem.W.fnOf "_law_put_right" "_law_put_right" (defArgs s__law_put_right) (defBody s__law_put_right) (defScope s__law_put_right) .none kV10 dc10 pm10 an10 cd10 ct10), sl10⟩) (c_10 : PySem.W.codeIn K cd10 "_law_put_right" = true) (k_10 : PySem.W.keepIn K (.ref a10) = true)
    (a_11 : PySem.W.findIn K (.ref C_Room) "where" = some (some (.ref a11))) (i_11 : PySem.W.isFn K (.ref a11) = true) (l_11 : K.lookup a11 = some ⟨oc11, od11, .func (PySem.W.fnOf "where" "Room.where" (defArgs s_Room__where) (defBody s_Room__where) (defScope s_Room__where) .none kV11 dc11 pm11 an11 cd11 ct11), sl11⟩) (c_11 : PySem.W.codeIn K cd11 "Room.where" = true) (k_11 : PySem.W.keepIn K (.ref a11) = true)
    (a_12 : PySem.W.findIn K (.ref C_Room) "leave" = some (some (.ref a12))) (i_12 : PySem.W.isFn K (.ref a12) = true) (l_12 : K.lookup a12 = some ⟨oc12, od12, .func (PySem.W.fnOf "leave" "Room.leave" (defArgs s_Room__leave) (defBody s_Room__leave) (defScope s_Room__leave) .none kV12 dc12 pm12 an12 cd12 ct12), sl12⟩) (c_12 : PySem.W.codeIn K cd12 "Room.leave" = true) (k_12 : PySem.W.keepIn K (.ref a12) = true)
    (a_13 : PySem.W.nsIn K mainGlobals "_law_leave_right" = some (some (.ref a13))) (l_13 : K.lookup a13 = some ⟨oc13, od13, .func (PySem.W.fnOf "_law_leave_right" "_law_leave_right" (defArgs s__law_leave_right) (defBody s__law_leave_right) (defScope s__law_leave_right) .none kV13 dc13 pm13 an13 cd13 ct13), sl13⟩) (c_13 : PySem.W.codeIn K cd13 "_law_leave_right" = true) (k_13 : PySem.W.keepIn K (.ref a13) = true)
    (a_14 : PySem.W.findIn K (.ref C_Room) "back" = some (some (.ref a14))) (i_14 : PySem.W.isFn K (.ref a14) = true) (l_14 : K.lookup a14 = some ⟨oc14, od14, .func (PySem.W.fnOf "back" "Room.back" (defArgs s_Room__back) (defBody s_Room__back) (defScope s_Room__back) .none kV14 dc14 pm14 an14 cd14 ct14), sl14⟩) (c_14 : PySem.W.codeIn K cd14 "Room.back" = true) (k_14 : PySem.W.keepIn K (.ref a14) = true)
    (a_15 : PySem.W.nsIn K mainGlobals "_law_back_right" = some (some (.ref a15))) (l_15 : K.lookup a15 = some ⟨oc15, od15, .func (PySem.W.fnOf "_law_back_right" "_law_back_right" (defArgs s__law_back_right) (defBody s__law_back_right) (defScope s__law_back_right) .none kV15 dc15 pm15 an15 cd15 ct15), sl15⟩) (c_15 : PySem.W.codeIn K cd15 "_law_back_right" = true) (k_15 : PySem.W.keepIn K (.ref a15) = true)
    (a_16 : PySem.W.findIn K (.ref C_Room) "load" = some (some (.ref a16))) (i_16 : PySem.W.isFn K (.ref a16) = true) (l_16 : K.lookup a16 = some ⟨oc16, od16, .func (PySem.W.fnOf "load" "Room.load" (defArgs s_Room__load) (defBody s_Room__load) (defScope s_Room__load) .none kV16 dc16 pm16 an16 cd16 ct16), sl16⟩) (c_16 : PySem.W.codeIn K cd16 "Room.load" = true) (k_16 : PySem.W.keepIn K (.ref a16) = true)
    (a_17 : PySem.W.nsIn K mainGlobals "_law_shown_right" = some (some (.ref a17))) (l_17 : K.lookup a17 = some ⟨oc17, od17, .func (PySem.W.fnOf "_law_shown_right" "_law_shown_right" (defArgs s__law_shown_right) (defBody s__law_shown_right) (defScope s__law_shown_right) .none kV17 dc17 pm17 an17 cd17 ct17), sl17⟩) (c_17 : PySem.W.codeIn K cd17 "_law_shown_right" = true) (k_17 : PySem.W.keepIn K (.ref a17) = true)
    (a_18 : PySem.W.nsIn K mainGlobals "_law_ball" = some (some (.ref a18))) (l_18 : K.lookup a18 = some ⟨oc18, od18, .func (PySem.W.fnOf "_law_ball" "_law_ball" (defArgs s__law_ball) (defBody s__law_ball) (defScope s__law_ball) .none kV18 dc18 pm18 an18 cd18 ct18), sl18⟩) (c_18 : PySem.W.codeIn K cd18 "_law_ball" = true) (k_18 : PySem.W.keepIn K (.ref a18) = true)
    (a_19 : PySem.W.nsIn K mainGlobals "_law_deed_right" = some (some (.ref a19))) (l_19 : K.lookup a19 = some ⟨oc19, od19, .func (PySem.W.fnOf "_law_deed_right" "_law_deed_right" (defArgs s__law_deed_right) (defBody s__law_deed_right) (defScope s__law_deed_right) .none kV19 dc19 pm19 an19 cd19 ct19), sl19⟩) (c_19 : PySem.W.codeIn K cd19 "_law_deed_right" = true) (k_19 : PySem.W.keepIn K (.ref a19) = true)
    (a_20 : PySem.W.nsIn K mainGlobals "_law_full_right" = some (some (.ref a20))) (l_20 : K.lookup a20 = some ⟨oc20, od20, .func (PySem.W.fnOf "_law_full_right" "_law_full_right" (defArgs s__law_full_right) (defBody s__law_full_right) (defScope s__law_full_right) .none kV20 dc20 pm20 an20 cd20 ct20), sl20⟩) (c_20 : PySem.W.codeIn K cd20 "_law_full_right" = true) (k_20 : PySem.W.keepIn K (.ref a20) = true)
    (a_21 : PySem.W.nsIn K mainGlobals "_law_long_right" = some (some (.ref a21))) (l_21 : K.lookup a21 = some ⟨oc21, od21, .func (PySem.W.fnOf "_law_long_right" "_law_long_right" (defArgs s__law_long_right) (defBody s__law_long_right) (defScope s__law_long_right) .none kV21 dc21 pm21 an21 cd21 ct21), sl21⟩) (c_21 : PySem.W.codeIn K cd21 "_law_long_right" = true) (k_21 : PySem.W.keepIn K (.ref a21) = true)
    (a_22 : PySem.W.nsIn K mainGlobals "law" = some (some (.ref a22))) (l_22 : K.lookup a22 = some ⟨oc22, od22, .func (PySem.W.fnOf "law" "law" (defArgs s_law) (defBody s_law) (defScope s_law) .none kV22 dc22 pm22 an22 cd22 ct22), sl22⟩) (c_22 : PySem.W.codeIn K cd22 "law" = true) (k_22 : PySem.W.keepIn K (.ref a22) = true)
    (z_abs : PySem.W.nsIn K mainGlobals "abs" = some none)
    (z_all : PySem.W.nsIn K mainGlobals "all" = some none)
    (z_bool : PySem.W.nsIn K mainGlobals "bool" = some none)
    (z_int : PySem.W.nsIn K mainGlobals "int" = some none)
    (z_isinstance : PySem.W.nsIn K mainGlobals "isinstance" = some none)
    (z_len : PySem.W.nsIn K mainGlobals "len" = some none)
    (z_list : PySem.W.nsIn K mainGlobals "list" = some none)
    (z_min : PySem.W.nsIn K mainGlobals "min" = some none)
    (z_range : PySem.W.nsIn K mainGlobals "range" = some none)
    (z_sorted : PySem.W.nsIn K mainGlobals "sorted" = some none)
    (z_tuple : PySem.W.nsIn K mainGlobals "tuple" = some none)
    (xa_NoBack : PySem.W.nsIn K mainGlobals "NoBack" = some (some (.ref xNoBack))) (xx_NoBack : PySem.W.excIn K xNoBack [.type "ValueError", .type "Exception", .type "BaseException", .type "object"] "ValueError.__new__" = true) (xk_NoBack : PySem.W.keepIn K (.ref xNoBack) = true) (xb_NoBack : PySem.W.subIn K (.ref xNoBack) (.type "BaseException") = some true) (xt_NoBack : PySem.W.typeIn K (.ref xNoBack) = some (.type "type"))
    (xa_NoBall : PySem.W.nsIn K mainGlobals "NoBall" = some (some (.ref xNoBall))) (xx_NoBall : PySem.W.excIn K xNoBall [.type "ValueError", .type "Exception", .type "BaseException", .type "object"] "ValueError.__new__" = true) (xk_NoBall : PySem.W.keepIn K (.ref xNoBall) = true) (xb_NoBall : PySem.W.subIn K (.ref xNoBall) (.type "BaseException") = some true) (xt_NoBall : PySem.W.typeIn K (.ref xNoBall) = some (.type "type"))
    (xa_TooMany : PySem.W.nsIn K mainGlobals "TooMany" = some (some (.ref xTooMany))) (xx_TooMany : PySem.W.excIn K xTooMany [.type "ValueError", .type "Exception", .type "BaseException", .type "object"] "ValueError.__new__" = true) (xk_TooMany : PySem.W.keepIn K (.ref xTooMany) = true) (xb_TooMany : PySem.W.subIn K (.ref xTooMany) (.type "BaseException") = some true) (xt_TooMany : PySem.W.typeIn K (.ref xTooMany) = some (.type "type"))
    (g_MOST_BALLS : PySem.W.nsIn K mainGlobals "MOST_BALLS" = some (some (.int 60 t_MOST_BALLS)))
    (en : PySem.W.specialIn K (.builtin "object.__class__") "__get__" = some (some (.builtin "getset_descriptor.__get__")))
    (et : PySem.W.takesIn K (.builtin "object.__class__") = some true)
    (eg_NoBack : PySem.W.findIn K (.ref xNoBack) "__getattribute__" = some (some (.builtin "BaseException.__getattribute__")))
    (eh_NoBack : PySem.W.findIn K (.ref xNoBack) "__getattr__" = some none)
    (ed_NoBack : PySem.W.hasDictIn K xNoBack = true)
    (ea_NoBack : PySem.W.findIn K (.ref xNoBack) "__class__" = some (some (.builtin "object.__class__")))
    (em_NoBack : PySem.W.mroIn K xNoBack (.type "object") = some true)
    (eg_NoBall : PySem.W.findIn K (.ref xNoBall) "__getattribute__" = some (some (.builtin "BaseException.__getattribute__")))
    (eh_NoBall : PySem.W.findIn K (.ref xNoBall) "__getattr__" = some none)
    (ed_NoBall : PySem.W.hasDictIn K xNoBall = true)
    (ea_NoBall : PySem.W.findIn K (.ref xNoBall) "__class__" = some (some (.builtin "object.__class__")))
    (em_NoBall : PySem.W.mroIn K xNoBall (.type "object") = some true)
    (eg_TooMany : PySem.W.findIn K (.ref xTooMany) "__getattribute__" = some (some (.builtin "BaseException.__getattribute__")))
    (eh_TooMany : PySem.W.findIn K (.ref xTooMany) "__getattr__" = some none)
    (ed_TooMany : PySem.W.hasDictIn K xTooMany = true)
    (ea_TooMany : PySem.W.findIn K (.ref xTooMany) "__class__" = some (some (.builtin "object.__class__")))
    (em_TooMany : PySem.W.mroIn K xTooMany (.type "object") = some true)
    (na_BallError : PySem.W.nsIn K mainGlobals "BallError" = some (some (.ref d_BallError)))
    (na_Fuller : PySem.W.nsIn K mainGlobals "Fuller" = some (some (.ref d_Fuller)))
    (na_NoBack : PySem.W.nsIn K mainGlobals "NoBack" = some (some (.ref d_NoBack)))
    (na_NoBall : PySem.W.nsIn K mainGlobals "NoBall" = some (some (.ref d_NoBall)))
    (na_NoName : PySem.W.nsIn K mainGlobals "NoName" = some (some (.ref d_NoName)))
    (na_NoRow : PySem.W.nsIn K mainGlobals "NoRow" = some (some (.ref d_NoRow)))
    (na_NoShare : PySem.W.nsIn K mainGlobals "NoShare" = some (some (.ref d_NoShare)))
    (na_NoText : PySem.W.nsIn K mainGlobals "NoText" = some (some (.ref d_NoText)))
    (na_TooMany : PySem.W.nsIn K mainGlobals "TooMany" = some (some (.ref d_TooMany)))
    (na_Unlike : PySem.W.nsIn K mainGlobals "Unlike" = some (some (.ref d_Unlike)))
    (ki_NoBack_Fuller : PySem.W.kitOne K (.ref xNoBack) (.ref d_Fuller) = some false)
    (ki_NoBall_Fuller : PySem.W.kitOne K (.ref xNoBall) (.ref d_Fuller) = some false)
    (ki_TooMany_Fuller : PySem.W.kitOne K (.ref xTooMany) (.ref d_Fuller) = some false)
    (ki_NoBack_NoBack : PySem.W.kitOne K (.ref xNoBack) (.ref d_NoBack) = some true)
    (ki_NoBall_NoBack : PySem.W.kitOne K (.ref xNoBall) (.ref d_NoBack) = some false)
    (ki_TooMany_NoBack : PySem.W.kitOne K (.ref xTooMany) (.ref d_NoBack) = some false)
    (ki_NoBack_NoBall : PySem.W.kitOne K (.ref xNoBack) (.ref d_NoBall) = some false)
    (ki_NoBall_NoBall : PySem.W.kitOne K (.ref xNoBall) (.ref d_NoBall) = some true)
    (ki_TooMany_NoBall : PySem.W.kitOne K (.ref xTooMany) (.ref d_NoBall) = some false)
    (ki_NoBack_NoName : PySem.W.kitOne K (.ref xNoBack) (.ref d_NoName) = some false)
    (ki_NoBall_NoName : PySem.W.kitOne K (.ref xNoBall) (.ref d_NoName) = some false)
    (ki_TooMany_NoName : PySem.W.kitOne K (.ref xTooMany) (.ref d_NoName) = some false)
    (ki_NoBack_NoRow : PySem.W.kitOne K (.ref xNoBack) (.ref d_NoRow) = some false)
    (ki_NoBall_NoRow : PySem.W.kitOne K (.ref xNoBall) (.ref d_NoRow) = some false)
    (ki_TooMany_NoRow : PySem.W.kitOne K (.ref xTooMany) (.ref d_NoRow) = some false)
    (ki_NoBack_NoShare : PySem.W.kitOne K (.ref xNoBack) (.ref d_NoShare) = some false)
    (ki_NoBall_NoShare : PySem.W.kitOne K (.ref xNoBall) (.ref d_NoShare) = some false)
    (ki_TooMany_NoShare : PySem.W.kitOne K (.ref xTooMany) (.ref d_NoShare) = some false)
    (ki_NoBack_NoText : PySem.W.kitOne K (.ref xNoBack) (.ref d_NoText) = some false)
    (ki_NoBall_NoText : PySem.W.kitOne K (.ref xNoBall) (.ref d_NoText) = some false)
    (ki_TooMany_NoText : PySem.W.kitOne K (.ref xTooMany) (.ref d_NoText) = some false)
    (ki_NoBack_TooMany : PySem.W.kitOne K (.ref xNoBack) (.ref d_TooMany) = some false)
    (ki_NoBall_TooMany : PySem.W.kitOne K (.ref xNoBall) (.ref d_TooMany) = some false)
    (ki_TooMany_TooMany : PySem.W.kitOne K (.ref xTooMany) (.ref d_TooMany) = some true)
    (ki_NoBack_Unlike : PySem.W.kitOne K (.ref xNoBack) (.ref d_Unlike) = some false)
    (ki_NoBall_Unlike : PySem.W.kitOne K (.ref xNoBall) (.ref d_Unlike) = some false)
    (ki_TooMany_Unlike : PySem.W.kitOne K (.ref xTooMany) (.ref d_Unlike) = some false)
    (z_ValueError : PySem.W.nsIn K mainGlobals "ValueError" = some none)
    (ki_NoBack_ValueError : PySem.W.kitOne K (.ref xNoBack) (.type "ValueError") = some true)
    (ki_NoBall_ValueError : PySem.W.kitOne K (.ref xNoBall) (.type "ValueError") = some true)
    (ki_TooMany_ValueError : PySem.W.kitOne K (.ref xTooMany) (.type "ValueError") = some true)
    (kx_NoBack_BallError : PySem.W.exmOne K (.ref xNoBack) (.ref d_BallError) = some true)
    (kx_NoBall_BallError : PySem.W.exmOne K (.ref xNoBall) (.ref d_BallError) = some true)
    (kx_TooMany_BallError : PySem.W.exmOne K (.ref xTooMany) (.ref d_BallError) = some true)
    (kc_10 : cd10 = .ref k10)
    (kl_10 : K.lookup k10 = some ⟨ko10, kd10, .fields kv10, ks10⟩)
    (kp_10 : kv10[11]? = some (.ref P10))
    (kh_10 : PySem.W.codeHdIn K k10 P10 = true)
    (kn_10 : K.lookup P10 = none)
    (km_10 : P10 ∈ ts)
    (kc_13 : cd13 = .ref k13)
    (kl_13 : K.lookup k13 = some ⟨ko13, kd13, .fields kv13, ks13⟩)
    (kp_13 : kv13[11]? = some (.ref P13))
    (kh_13 : PySem.W.codeHdIn K k13 P13 = true)
    (kn_13 : K.lookup P13 = none)
    (km_13 : P13 ∈ ts)
    (kc_15 : cd15 = .ref k15)
    (kl_15 : K.lookup k15 = some ⟨ko15, kd15, .fields kv15, ks15⟩)
    (kp_15 : kv15[11]? = some (.ref P15))
    (kh_15 : PySem.W.codeHdIn K k15 P15 = true)
    (kn_15 : K.lookup P15 = none)
    (km_15 : P15 ∈ ts)
    (ke_10_13 : P10 ≠ P13)
    (ke_10_15 : P10 ≠ P15)
    (ke_13_15 : P13 ≠ P15)
    : ∃ (fd : FuncData) (cs : List (Addr × Addr)) (T : List (Addr × Str)), (∀ p ∈ cs, h.get? p.2 = some { cls := .none, data := .fields #[] }) ∧ (∀ p ∈ cs, K.lookup p.2 = none) ∧ (∀ p ∈ cs, PySem.W.CodeHd h p.1 p.2) ∧ (∀ t ∈ T, ∃ p ∈ cs, p.2 = t.1) ∧ (∀ (s : Shared) (u : Value), BindsTo s fd ⟨[u], []⟩ [("_law_script", u)]) ∧ ∀ base : Heap, K.In base → base.Ns mainGlobals mg → (∀ p ∈ cs, LamX.TabB base mg p.1 p.2) → FnG l.prog w K mg base 8 fa fd ["_law_script"] (spLaw K f_law T) := by
  have e := hfa.symm.trans (PySem.W.mg_of X G a_22)
  have T : Txt K mg (ecOf mg [(P10, (("_law_put_right" : Str) ++ ".<locals>." ++ "<lambda>")), (P13, (("_law_leave_right" : Str) ++ ".<locals>." ++ "<lambda>")), (P15, (("_law_back_right" : Str) ++ ".<locals>." ++ "<lambda>"))] ["NoBack", "NoBall", "TooMany"]) := ⟨PySem.W.mg_none_of X G z_abs, PySem.W.mg_none_of X G z_all, PySem.W.mg_none_of X G z_bool, PySem.W.mg_none_of X G z_int, PySem.W.mg_none_of X G z_isinstance, PySem.W.mg_none_of X G z_len, PySem.W.mg_none_of X G z_list, PySem.W.mg_none_of X G z_min, PySem.W.mg_none_of X G z_range, PySem.W.mg_none_of X G z_sorted, PySem.W.mg_none_of X G z_tuple, ⟨exc_g (PySem.W.mg_of X G xa_NoBack), exc_e (P := fun a => PySem.W.excIn K a [.type "ValueError", .type "Exception", .type "BaseException", .type "object"] "ValueError.__new__" = true) (PySem.W.mg_of X G xa_NoBack) xx_NoBack, exc_e (P := fun a => PySem.W.keepIn K (.ref a) = true) (PySem.W.mg_of X G xa_NoBack) xk_NoBack, exc_e (P := fun a => PySem.W.subIn K (.ref a) (.type "BaseException") = some true) (PySem.W.mg_of X G xa_NoBack) xb_NoBack, exc_e (P := fun a => PySem.W.typeIn K (.ref a) = some (.type "type")) (PySem.W.mg_of X G xa_NoBack) xt_NoBack⟩, ⟨exc_g (PySem.W.mg_of X G xa_NoBall), exc_e (P := fun a => PySem.W.excIn K a [.type "ValueError", .type "Exception", .type "BaseException", .type "object"] "ValueError.__new__" = true) (PySem.W.mg_of X G xa_NoBall) xx_NoBall, exc_e (P := fun a => PySem.W.keepIn K (.ref a) = true) (PySem.W.mg_of X G xa_NoBall) xk_NoBall, exc_e (P := fun a => PySem.W.subIn K (.ref a) (.type "BaseException") = some true) (PySem.W.mg_of X G xa_NoBall) xb_NoBall, exc_e (P := fun a => PySem.W.typeIn K (.ref a) = some (.type "type")) (PySem.W.mg_of X G xa_NoBall) xt_NoBall⟩, ⟨exc_g (PySem.W.mg_of X G xa_TooMany), exc_e (P := fun a => PySem.W.excIn K a [.type "ValueError", .type "Exception", .type "BaseException", .type "object"] "ValueError.__new__" = true) (PySem.W.mg_of X G xa_TooMany) xx_TooMany, exc_e (P := fun a => PySem.W.keepIn K (.ref a) = true) (PySem.W.mg_of X G xa_TooMany) xk_TooMany, exc_e (P := fun a => PySem.W.subIn K (.ref a) (.type "BaseException") = some true) (PySem.W.mg_of X G xa_TooMany) xb_TooMany, exc_e (P := fun a => PySem.W.typeIn K (.ref a) = some (.type "type")) (PySem.W.mg_of X G xa_TooMany) xt_TooMany⟩, ⟨_, PySem.W.mg_of X G g_MOST_BALLS⟩, ⟨⟨exc_e (P := fun a => PySem.W.plainGet K a Str.empty = true) (PySem.W.mg_of X G ca_Room) cp_Room, exc_e (P := fun a => PySem.W.hasDictIn K a = true) (PySem.W.mg_of X G ca_Room) cd_Room, exc_e (P := fun a => PySem.W.plainOver K a = true) (PySem.W.mg_of X G ca_Room) co_Room, exc_e (P := fun a => PySem.W.findIn K (.ref a) "__setattr__" = some (some (.builtin "object.__setattr__"))) (PySem.W.mg_of X G ca_Room) cs_Room⟩, exc_g (PySem.W.mg_of X G ca_Room), List.forall_mem_cons.mpr ⟨exc_e (P := fun a => PySem.W.findIn K (.ref a) "many" = some none) (PySem.W.mg_of X G ca_Room) cn_Room_many, List.forall_mem_cons.mpr ⟨exc_e (P := fun a => PySem.W.findIn K (.ref a) "lying" = some none) (PySem.W.mg_of X G ca_Room) cn_Room_lying, List.forall_mem_cons.mpr ⟨exc_e (P := fun a => PySem.W.findIn K (.ref a) "known" = some none) (PySem.W.mg_of X G ca_Room) cn_Room_known, List.forall_mem_cons.mpr ⟨exc_e (P := fun a => PySem.W.findIn K (.ref a) "past" = some none) (PySem.W.mg_of X G ca_Room) cn_Room_past, fun _ h => nomatch h⟩⟩⟩⟩⟩, bas_bot, (show ∀ m, m ∈ ["NoBack", "NoBall", "TooMany"] → ExcC K ((ecOf mg [(P10, (("_law_put_right" : Str) ++ ".<locals>." ++ "<lambda>")), (P13, (("_law_leave_right" : Str) ++ ".<locals>." ++ "<lambda>")), (P15, (("_law_back_right" : Str) ++ ".<locals>." ++ "<lambda>"))] ["NoBack", "NoBall", "TooMany"]).f m) from List.forall_mem_cons.mpr ⟨⟨exc_e (P := fun a => PySem.W.findIn K (.ref a) "__getattribute__" = some (some (.builtin "BaseException.__getattribute__"))) (PySem.W.mg_of X G xa_NoBack) eg_NoBack, exc_e (P := fun a => PySem.W.findIn K (.ref a) "__getattr__" = some none) (PySem.W.mg_of X G xa_NoBack) eh_NoBack, exc_e (P := fun a => PySem.W.subIn K (.ref a) (.type "BaseException") = some true) (PySem.W.mg_of X G xa_NoBack) xb_NoBack, exc_e (P := fun a => PySem.W.hasDictIn K a = true) (PySem.W.mg_of X G xa_NoBack) ed_NoBack, exc_e (P := fun a => PySem.W.findIn K (.ref a) "__class__" = some (some (.builtin "object.__class__"))) (PySem.W.mg_of X G xa_NoBack) ea_NoBack, en, et, exc_e (P := fun a => PySem.W.mroIn K a (.type "object") = some true) (PySem.W.mg_of X G xa_NoBack) em_NoBack⟩, List.forall_mem_cons.mpr ⟨⟨exc_e (P := fun a => PySem.W.findIn K (.ref a) "__getattribute__" = some (some (.builtin "BaseException.__getattribute__"))) (PySem.W.mg_of X G xa_NoBall) eg_NoBall, exc_e (P := fun a => PySem.W.findIn K (.ref a) "__getattr__" = some none) (PySem.W.mg_of X G xa_NoBall) eh_NoBall, exc_e (P := fun a => PySem.W.subIn K (.ref a) (.type "BaseException") = some true) (PySem.W.mg_of X G xa_NoBall) xb_NoBall, exc_e (P := fun a => PySem.W.hasDictIn K a = true) (PySem.W.mg_of X G xa_NoBall) ed_NoBall, exc_e (P := fun a => PySem.W.findIn K (.ref a) "__class__" = some (some (.builtin "object.__class__"))) (PySem.W.mg_of X G xa_NoBall) ea_NoBall, en, et, exc_e (P := fun a => PySem.W.mroIn K a (.type "object") = some true) (PySem.W.mg_of X G xa_NoBall) em_NoBall⟩, List.forall_mem_cons.mpr ⟨⟨exc_e (P := fun a => PySem.W.findIn K (.ref a) "__getattribute__" = some (some (.builtin "BaseException.__getattribute__"))) (PySem.W.mg_of X G xa_TooMany) eg_TooMany, exc_e (P := fun a => PySem.W.findIn K (.ref a) "__getattr__" = some none) (PySem.W.mg_of X G xa_TooMany) eh_TooMany, exc_e (P := fun a => PySem.W.subIn K (.ref a) (.type "BaseException") = some true) (PySem.W.mg_of X G xa_TooMany) xb_TooMany, exc_e (P := fun a => PySem.W.hasDictIn K a = true) (PySem.W.mg_of X G xa_TooMany) ed_TooMany, exc_e (P := fun a => PySem.W.findIn K (.ref a) "__class__" = some (some (.builtin "object.__class__"))) (PySem.W.mg_of X G xa_TooMany) ea_TooMany, en, et, exc_e (P := fun a => PySem.W.mroIn K a (.type "object") = some true) (PySem.W.mg_of X G xa_TooMany) em_TooMany⟩, fun _ h => nomatch h⟩⟩⟩), isF_own (PySem.W.mg_of X G na_Fuller) (show ∀ m, m ∈ ["NoBack", "NoBall", "TooMany"] → PySem.W.kitOne K (.ref ((ecOf mg [(P10, (("_law_put_right" : Str) ++ ".<locals>." ++ "<lambda>")), (P13, (("_law_leave_right" : Str) ++ ".<locals>." ++ "<lambda>")), (P15, (("_law_back_right" : Str) ++ ".<locals>." ++ "<lambda>"))] ["NoBack", "NoBall", "TooMany"]).f m)) (.ref d_Fuller) = some (isSub m "Fuller") from List.forall_mem_cons.mpr ⟨exc_e (P := fun a => PySem.W.kitOne K (.ref a) (.ref d_Fuller) = some (isSub "NoBack" "Fuller")) (PySem.W.mg_of X G xa_NoBack) ki_NoBack_Fuller, List.forall_mem_cons.mpr ⟨exc_e (P := fun a => PySem.W.kitOne K (.ref a) (.ref d_Fuller) = some (isSub "NoBall" "Fuller")) (PySem.W.mg_of X G xa_NoBall) ki_NoBall_Fuller, List.forall_mem_cons.mpr ⟨exc_e (P := fun a => PySem.W.kitOne K (.ref a) (.ref d_Fuller) = some (isSub "TooMany" "Fuller")) (PySem.W.mg_of X G xa_TooMany) ki_TooMany_Fuller, fun _ h => nomatch h⟩⟩⟩), isF_own (PySem.W.mg_of X G na_NoBack) (show ∀ m, m ∈ ["NoBack", "NoBall", "TooMany"] → PySem.W.kitOne K (.ref ((ecOf mg [(P10, (("_law_put_right" : Str) ++ ".<locals>." ++ "<lambda>")), (P13, (("_law_leave_right" : Str) ++ ".<locals>." ++ "<lambda>")), (P15, (("_law_back_right" : Str) ++ ".<locals>." ++ "<lambda>"))] ["NoBack", "NoBall", "TooMany"]).f m)) (.ref d_NoBack) = some (isSub m "NoBack") from List.forall_mem_cons.mpr ⟨exc_e (P := fun a => PySem.W.kitOne K (.ref a) (.ref d_NoBack) = some (isSub "NoBack" "NoBack")) (PySem.W.mg_of X G xa_NoBack) ki_NoBack_NoBack, List.forall_mem_cons.mpr ⟨exc_e (P := fun a => PySem.W.kitOne K (.ref a) (.ref d_NoBack) = some (isSub "NoBall" "NoBack")) (PySem.W.mg_of X G xa_NoBall) ki_NoBall_NoBack, List.forall_mem_cons.mpr ⟨exc_e (P := fun a => PySem.W.kitOne K (.ref a) (.ref d_NoBack) = some (isSub "TooMany" "NoBack")) (PySem.W.mg_of X G xa_TooMany) ki_TooMany_NoBack, fun _ h => nomatch h⟩⟩⟩), isF_own (PySem.W.mg_of X G na_NoBall) (show ∀ m, m ∈ ["NoBack", "NoBall", "TooMany"] → PySem.W.kitOne K (.ref ((ecOf mg [(P10, (("_law_put_right" : Str) ++ ".<locals>." ++ "<lambda>")), (P13, (("_law_leave_right" : Str) ++ ".<locals>." ++ "<lambda>")), (P15, (("_law_back_right" : Str) ++ ".<locals>." ++ "<lambda>"))] ["NoBack", "NoBall", "TooMany"]).f m)) (.ref d_NoBall) = some (isSub m "NoBall") from List.forall_mem_cons.mpr ⟨exc_e (P := fun a => PySem.W.kitOne K (.ref a) (.ref d_NoBall) = some (isSub "NoBack" "NoBall")) (PySem.W.mg_of X G xa_NoBack) ki_NoBack_NoBall, List.forall_mem_cons.mpr ⟨exc_e (P := fun a => PySem.W.kitOne K (.ref a) (.ref d_NoBall) = some (isSub "NoBall" "NoBall")) (PySem.W.mg_of X G xa_NoBall) ki_NoBall_NoBall, List.forall_mem_cons.mpr ⟨exc_e (P := fun a => PySem.W.kitOne K (.ref a) (.ref d_NoBall) = some (isSub "TooMany" "NoBall")) (PySem.W.mg_of X G xa_TooMany) ki_TooMany_NoBall, fun _ h => nomatch h⟩⟩⟩), isF_own (PySem.W.mg_of X G na_NoName) (show ∀ m, m ∈ ["NoBack", "NoBall", "TooMany"] → PySem.W.kitOne K (.ref ((ecOf mg [(P10, (("_law_put_right" : Str) ++ ".<locals>." ++ "<lambda>")), (P13, (("_law_leave_right" : Str) ++ ".<locals>." ++ "<lambda>")), (P15, (("_law_back_right" : Str) ++ ".<locals>." ++ "<lambda>"))] ["NoBack", "NoBall", "TooMany"]).f m)) (.ref d_NoName) = some (isSub m "NoName") from List.forall_mem_cons.mpr ⟨exc_e (P := fun a => PySem.W.kitOne K (.ref a) (.ref d_NoName) = some (isSub "NoBack" "NoName")) (PySem.W.mg_of X G xa_NoBack) ki_NoBack_NoName, List.forall_mem_cons.mpr ⟨exc_e (P := fun a => PySem.W.kitOne K (.ref a) (.ref d_NoName) = some (isSub "NoBall" "NoName")) (PySem.W.mg_of X G xa_NoBall) ki_NoBall_NoName, List.forall_mem_cons.mpr ⟨exc_e (P := fun a => PySem.W.kitOne K (.ref a) (.ref d_NoName) = some (isSub "TooMany" "NoName")) (PySem.W.mg_of X G xa_TooMany) ki_TooMany_NoName, fun _ h => nomatch h⟩⟩⟩), isF_own (PySem.W.mg_of X G na_NoRow) (show ∀ m, m ∈ ["NoBack", "NoBall", "TooMany"] → PySem.W.kitOne K (.ref ((ecOf mg [(P10, (("_law_put_right" : Str) ++ ".<locals>." ++ "<lambda>")), (P13, (("_law_leave_right" : Str) ++ ".<locals>." ++ "<lambda>")), (P15, (("_law_back_right" : Str) ++ ".<locals>." ++ "<lambda>"))] ["NoBack", "NoBall", "TooMany"]).f m)) (.ref d_NoRow) = some (isSub m "NoRow") from List.forall_mem_cons.mpr ⟨exc_e (P := fun a => PySem.W.kitOne K (.ref a) (.ref d_NoRow) = some (isSub "NoBack" "NoRow")) (PySem.W.mg_of X G xa_NoBack) ki_NoBack_NoRow, List.forall_mem_cons.mpr ⟨exc_e (P := fun a => PySem.W.kitOne K (.ref a) (.ref d_NoRow) = some (isSub "NoBall" "NoRow")) (PySem.W.mg_of X G xa_NoBall) ki_NoBall_NoRow, List.forall_mem_cons.mpr ⟨exc_e (P := fun a => PySem.W.kitOne K (.ref a) (.ref d_NoRow) = some (isSub "TooMany" "NoRow")) (PySem.W.mg_of X G xa_TooMany) ki_TooMany_NoRow, fun _ h => nomatch h⟩⟩⟩), isF_own (PySem.W.mg_of X G na_NoShare) (show ∀ m, m ∈ ["NoBack", "NoBall", "TooMany"] → PySem.W.kitOne K (.ref ((ecOf mg [(P10, (("_law_put_right" : Str) ++ ".<locals>." ++ "<lambda>")), (P13, (("_law_leave_right" : Str) ++ ".<locals>." ++ "<lambda>")), (P15, (("_law_back_right" : Str) ++ ".<locals>." ++ "<lambda>"))] ["NoBack", "NoBall", "TooMany"]).f m)) (.ref d_NoShare) = some (isSub m "NoShare") from List.forall_mem_cons.mpr ⟨exc_e (P := fun a => PySem.W.kitOne K (.ref a) (.ref d_NoShare) = some (isSub "NoBack" "NoShare")) (PySem.W.mg_of X G xa_NoBack) ki_NoBack_NoShare, List.forall_mem_cons.mpr ⟨exc_e (P := fun a => PySem.W.kitOne K (.ref a) (.ref d_NoShare) = some (isSub "NoBall" "NoShare")) (PySem.W.mg_of X G xa_NoBall) ki_NoBall_NoShare, List.forall_mem_cons.mpr ⟨exc_e (P := fun a => PySem.W.kitOne K (.ref a) (.ref d_NoShare) = some (isSub "TooMany" "NoShare")) (PySem.W.mg_of X G xa_TooMany) ki_TooMany_NoShare, fun _ h => nomatch h⟩⟩⟩), isF_own (PySem.W.mg_of X G na_NoText) (show ∀ m, m ∈ ["NoBack", "NoBall", "TooMany"] → PySem.W.kitOne K (.ref ((ecOf mg [(P10, (("_law_put_right" : Str) ++ ".<locals>." ++ "<lambda>")), (P13, (("_law_leave_right" : Str) ++ ".<locals>." ++ "<lambda>")), (P15, (("_law_back_right" : Str) ++ ".<locals>." ++ "<lambda>"))] ["NoBack", "NoBall", "TooMany"]).f m)) (.ref d_NoText) = some (isSub m "NoText") from List.forall_mem_cons.mpr ⟨exc_e (P := fun a => PySem.W.kitOne K (.ref a) (.ref d_NoText) = some (isSub "NoBack" "NoText")) (PySem.W.mg_of X G xa_NoBack) ki_NoBack_NoText, List.forall_mem_cons.mpr ⟨exc_e (P := fun a => PySem.W.kitOne K (.ref a) (.ref d_NoText) = some (isSub "NoBall" "NoText")) (PySem.W.mg_of X G xa_NoBall) ki_NoBall_NoText, List.forall_mem_cons.mpr ⟨exc_e (P := fun a => PySem.W.kitOne K (.ref a) (.ref d_NoText) = some (isSub "TooMany" "NoText")) (PySem.W.mg_of X G xa_TooMany) ki_TooMany_NoText, fun _ h => nomatch h⟩⟩⟩), isF_own (PySem.W.mg_of X G na_TooMany) (show ∀ m, m ∈ ["NoBack", "NoBall", "TooMany"] → PySem.W.kitOne K (.ref ((ecOf mg [(P10, (("_law_put_right" : Str) ++ ".<locals>." ++ "<lambda>")), (P13, (("_law_leave_right" : Str) ++ ".<locals>." ++ "<lambda>")), (P15, (("_law_back_right" : Str) ++ ".<locals>." ++ "<lambda>"))] ["NoBack", "NoBall", "TooMany"]).f m)) (.ref d_TooMany) = some (isSub m "TooMany") from List.forall_mem_cons.mpr ⟨exc_e (P := fun a => PySem.W.kitOne K (.ref a) (.ref d_TooMany) = some (isSub "NoBack" "TooMany")) (PySem.W.mg_of X G xa_NoBack) ki_NoBack_TooMany, List.forall_mem_cons.mpr ⟨exc_e (P := fun a => PySem.W.kitOne K (.ref a) (.ref d_TooMany) = some (isSub "NoBall" "TooMany")) (PySem.W.mg_of X G xa_NoBall) ki_NoBall_TooMany, List.forall_mem_cons.mpr ⟨exc_e (P := fun a => PySem.W.kitOne K (.ref a) (.ref d_TooMany) = some (isSub "TooMany" "TooMany")) (PySem.W.mg_of X G xa_TooMany) ki_TooMany_TooMany, fun _ h => nomatch h⟩⟩⟩), isF_own (PySem.W.mg_of X G na_Unlike) (show ∀ m, m ∈ ["NoBack", "NoBall", "TooMany"] → PySem.W.kitOne K (.ref ((ecOf mg [(P10, (("_law_put_right" : Str) ++ ".<locals>." ++ "<lambda>")), (P13, (("_law_leave_right" : Str) ++ ".<locals>." ++ "<lambda>")), (P15, (("_law_back_right" : Str) ++ ".<locals>." ++ "<lambda>"))] ["NoBack", "NoBall", "TooMany"]).f m)) (.ref d_Unlike) = some (isSub m "Unlike") from List.forall_mem_cons.mpr ⟨exc_e (P := fun a => PySem.W.kitOne K (.ref a) (.ref d_Unlike) = some (isSub "NoBack" "Unlike")) (PySem.W.mg_of X G xa_NoBack) ki_NoBack_Unlike, List.forall_mem_cons.mpr ⟨exc_e (P := fun a => PySem.W.kitOne K (.ref a) (.ref d_Unlike) = some (isSub "NoBall" "Unlike")) (PySem.W.mg_of X G xa_NoBall) ki_NoBall_Unlike, List.forall_mem_cons.mpr ⟨exc_e (P := fun a => PySem.W.kitOne K (.ref a) (.ref d_Unlike) = some (isSub "TooMany" "Unlike")) (PySem.W.mg_of X G xa_TooMany) ki_TooMany_Unlike, fun _ h => nomatch h⟩⟩⟩), isF_ty (PySem.W.mg_none_of X G z_ValueError) rfl (by decide) (show ∀ m, m ∈ ["NoBack", "NoBall", "TooMany"] → PySem.W.kitOne K (.ref ((ecOf mg [(P10, (("_law_put_right" : Str) ++ ".<locals>." ++ "<lambda>")), (P13, (("_law_leave_right" : Str) ++ ".<locals>." ++ "<lambda>")), (P15, (("_law_back_right" : Str) ++ ".<locals>." ++ "<lambda>"))] ["NoBack", "NoBall", "TooMany"]).f m)) (.type "ValueError") = some (isSub m "ValueError") from List.forall_mem_cons.mpr ⟨exc_e (P := fun a => PySem.W.kitOne K (.ref a) (.type "ValueError") = some (isSub "NoBack" "ValueError")) (PySem.W.mg_of X G xa_NoBack) ki_NoBack_ValueError, List.forall_mem_cons.mpr ⟨exc_e (P := fun a => PySem.W.kitOne K (.ref a) (.type "ValueError") = some (isSub "NoBall" "ValueError")) (PySem.W.mg_of X G xa_NoBall) ki_NoBall_ValueError, List.forall_mem_cons.mpr ⟨exc_e (P := fun a => PySem.W.kitOne K (.ref a) (.type "ValueError") = some (isSub "TooMany" "ValueError")) (PySem.W.mg_of X G xa_TooMany) ki_TooMany_ValueError, fun _ h => nomatch h⟩⟩⟩), ⟨_, .inl (PySem.W.mg_of X G na_BallError), (show ∀ m, m ∈ ["NoBack", "NoBall", "TooMany"] → m ∈ (ecOf mg [(P10, (("_law_put_right" : Str) ++ ".<locals>." ++ "<lambda>")), (P13, (("_law_leave_right" : Str) ++ ".<locals>." ++ "<lambda>")), (P15, (("_law_back_right" : Str) ++ ".<locals>." ++ "<lambda>"))] ["NoBack", "NoBall", "TooMany"]).X ∧ PySem.W.exmOne K (.ref ((ecOf mg [(P10, (("_law_put_right" : Str) ++ ".<locals>." ++ "<lambda>")), (P13, (("_law_leave_right" : Str) ++ ".<locals>." ++ "<lambda>")), (P15, (("_law_back_right" : Str) ++ ".<locals>." ++ "<lambda>"))] ["NoBack", "NoBall", "TooMany"]).f m)) (.ref d_BallError) = some true from List.forall_mem_cons.mpr ⟨⟨(show "NoBack" ∈ ["NoBack", "NoBall", "TooMany"] from by decide), exc_e (P := fun a => PySem.W.exmOne K (.ref a) (.ref d_BallError) = some true) (PySem.W.mg_of X G xa_NoBack) kx_NoBack_BallError⟩, List.forall_mem_cons.mpr ⟨⟨(show "NoBall" ∈ ["NoBack", "NoBall", "TooMany"] from by decide), exc_e (P := fun a => PySem.W.exmOne K (.ref a) (.ref d_BallError) = some true) (PySem.W.mg_of X G xa_NoBall) kx_NoBall_BallError⟩, List.forall_mem_cons.mpr ⟨⟨(show "TooMany" ∈ ["NoBack", "NoBall", "TooMany"] from by decide), exc_e (P := fun a => PySem.W.exmOne K (.ref a) (.ref d_BallError) = some true) (PySem.W.mg_of X G xa_TooMany) kx_TooMany_BallError⟩, fun _ h => nomatch h⟩⟩⟩)⟩⟩
  have D0 : DefF K mg "chosen" s_chosen ["stand", "draw"] := defF_mk (st := s_chosen) (PySem.W.mg_of X G a_0) l_0 c_0 k_0 fun _ _ _ _ _ _ us hl => match us, hl with | [_, _], _ => rfl
  have D1 : DefF K mg "is_whole" s_is_whole ["thing"] := defF_mk (st := s_is_whole) (PySem.W.mg_of X G a_1) l_1 c_1 k_1 fun _ _ _ _ _ _ us hl => match us, hl with | [_], _ => rfl
  have D2 : DefF K mg "sorted_load" s_sorted_load ["numbers"] := defF_mk (st := s_sorted_load) (PySem.W.mg_of X G a_2) l_2 c_2 k_2 fun _ _ _ _ _ _ us hl => match us, hl with | [_], _ => rfl
  have D3 : DefF K mg "_law_pen" s__law_pen ["_law_script"] := defF_mk (st := s__law_pen) (PySem.W.mg_of X G a_3) l_3 c_3 k_3 fun _ _ _ _ _ _ us hl => match us, hl with | [_], _ => rfl
  have D4 : DefF K mg "_law_draw" s__law_draw ["_law_pen_here", "_law_many"] := defF_mk (st := s__law_draw) (PySem.W.mg_of X G a_4) l_4 c_4 k_4 fun _ _ _ _ _ _ us hl => match us, hl with | [_, _], _ => rfl
  have D5 : DefF K mg "_law_is_whole" s__law_is_whole ["_law_thing"] := defF_mk (st := s__law_is_whole) (PySem.W.mg_of X G a_5) l_5 c_5 k_5 fun _ _ _ _ _ _ us hl => match us, hl with | [_], _ => rfl
  have D6 : DefF K mg "_law_heard" s__law_heard ["_law_asked"] := defF_mk (st := s__law_heard) (PySem.W.mg_of X G a_6) l_6 c_6 k_6 fun _ _ _ _ _ _ us hl => match us, hl with | [_], _ => rfl
  have D7 : DefF K mg "_law_counts" s__law_counts ["_law_world"] := defF_mk (st := s__law_counts) (PySem.W.mg_of X G a_7) l_7 c_7 k_7 fun _ _ _ _ _ _ us hl => match us, hl with | [_], _ => rfl
  have F8 := fun_mk (st := s_Room__stand) l_8 c_8 k_8
  have D8 : MthF K (ecOf mg [(P10, (("_law_put_right" : Str) ++ ".<locals>." ++ "<lambda>")), (P13, (("_law_leave_right" : Str) ++ ".<locals>." ++ "<lambda>")), (P15, (("_law_back_right" : Str) ++ ".<locals>." ++ "<lambda>"))] ["NoBack", "NoBall", "TooMany"]) "Room" "stand" "Room.stand" s_Room__stand ["self"] := ⟨_, _, F8, ⟨exc_e (P := fun a => PySem.W.findIn K (.ref a) "stand" = some (some (.ref a8))) (PySem.W.mg_of X G ca_Room) a_8, i_8, k_8⟩, F8.binds fun _ _ _ _ _ _ us hl => match us, hl with | [_], _ => rfl⟩
  have F9 := fun_mk (st := s_Room__put) l_9 c_9 k_9
  have D9 : MthF K (ecOf mg [(P10, (("_law_put_right" : Str) ++ ".<locals>." ++ "<lambda>")), (P13, (("_law_leave_right" : Str) ++ ".<locals>." ++ "<lambda>")), (P15, (("_law_back_right" : Str) ++ ".<locals>." ++ "<lambda>"))] ["NoBack", "NoBall", "TooMany"]) "Room" "put" "Room.put" s_Room__put ["self", "draw"] := ⟨_, _, F9, ⟨exc_e (P := fun a => PySem.W.findIn K (.ref a) "put" = some (some (.ref a9))) (PySem.W.mg_of X G ca_Room) a_9, i_9, k_9⟩, F9.binds fun _ _ _ _ _ _ us hl => match us, hl with | [_, _], _ => rfl⟩
  have D10 : DefF K mg "_law_put_right" s__law_put_right ["_law_room", "_law_world", "_law_draw_here"] := defF_mk (st := s__law_put_right) (PySem.W.mg_of X G a_10) l_10 c_10 k_10 fun _ _ _ _ _ _ us hl => match us, hl with | [_, _, _], _ => rfl
  have F11 := fun_mk (st := s_Room__where) l_11 c_11 k_11
  have D11 : MthF K (ecOf mg [(P10, (("_law_put_right" : Str) ++ ".<locals>." ++ "<lambda>")), (P13, (("_law_leave_right" : Str) ++ ".<locals>." ++ "<lambda>")), (P15, (("_law_back_right" : Str) ++ ".<locals>." ++ "<lambda>"))] ["NoBack", "NoBall", "TooMany"]) "Room" "where" "Room.where" s_Room__where ["self", "ball"] := ⟨_, _, F11, ⟨exc_e (P := fun a => PySem.W.findIn K (.ref a) "where" = some (some (.ref a11))) (PySem.W.mg_of X G ca_Room) a_11, i_11, k_11⟩, F11.binds fun _ _ _ _ _ _ us hl => match us, hl with | [_, _], _ => rfl⟩
  have F12 := fun_mk (st := s_Room__leave) l_12 c_12 k_12
  have D12 : MthF K (ecOf mg [(P10, (("_law_put_right" : Str) ++ ".<locals>." ++ "<lambda>")), (P13, (("_law_leave_right" : Str) ++ ".<locals>." ++ "<lambda>")), (P15, (("_law_back_right" : Str) ++ ".<locals>." ++ "<lambda>"))] ["NoBack", "NoBall", "TooMany"]) "Room" "leave" "Room.leave" s_Room__leave ["self", "ball"] := ⟨_, _, F12, ⟨exc_e (P := fun a => PySem.W.findIn K (.ref a) "leave" = some (some (.ref a12))) (PySem.W.mg_of X G ca_Room) a_12, i_12, k_12⟩, F12.binds fun _ _ _ _ _ _ us hl => match us, hl with | [_, _], _ => rfl⟩
  have D13 : DefF K mg "_law_leave_right" s__law_leave_right ["_law_room", "_law_world", "_law_ball_here"] := defF_mk (st := s__law_leave_right) (PySem.W.mg_of X G a_13) l_13 c_13 k_13 fun _ _ _ _ _ _ us hl => match us, hl with | [_, _, _], _ => rfl
  have F14 := fun_mk (st := s_Room__back) l_14 c_14 k_14
  have D14 : MthF K (ecOf mg [(P10, (("_law_put_right" : Str) ++ ".<locals>." ++ "<lambda>")), (P13, (("_law_leave_right" : Str) ++ ".<locals>." ++ "<lambda>")), (P15, (("_law_back_right" : Str) ++ ".<locals>." ++ "<lambda>"))] ["NoBack", "NoBall", "TooMany"]) "Room" "back" "Room.back" s_Room__back ["self"] := ⟨_, _, F14, ⟨exc_e (P := fun a => PySem.W.findIn K (.ref a) "back" = some (some (.ref a14))) (PySem.W.mg_of X G ca_Room) a_14, i_14, k_14⟩, F14.binds fun _ _ _ _ _ _ us hl => match us, hl with | [_], _ => rfl⟩
  have D15 : DefF K mg "_law_back_right" s__law_back_right ["_law_room", "_law_world"] := defF_mk (st := s__law_back_right) (PySem.W.mg_of X G a_15) l_15 c_15 k_15 fun _ _ _ _ _ _ us hl => match us, hl with | [_, _], _ => rfl
  have F16 := fun_mk (st := s_Room__load) l_16 c_16 k_16
  have D16 : MthF K (ecOf mg [(P10, (("_law_put_right" : Str) ++ ".<locals>." ++ "<lambda>")), (P13, (("_law_leave_right" : Str) ++ ".<locals>." ++ "<lambda>")), (P15, (("_law_back_right" : Str) ++ ".<locals>." ++ "<lambda>"))] ["NoBack", "NoBall", "TooMany"]) "Room" "load" "Room.load" s_Room__load ["self"] := ⟨_, _, F16, ⟨exc_e (P := fun a => PySem.W.findIn K (.ref a) "load" = some (some (.ref a16))) (PySem.W.mg_of X G ca_Room) a_16, i_16, k_16⟩, F16.binds fun _ _ _ _ _ _ us hl => match us, hl with | [_], _ => rfl⟩
  have D17 : DefF K mg "_law_shown_right" s__law_shown_right ["_law_room", "_law_world"] := defF_mk (st := s__law_shown_right) (PySem.W.mg_of X G a_17) l_17 c_17 k_17 fun _ _ _ _ _ _ us hl => match us, hl with | [_, _], _ => rfl
  have D18 : DefF K mg "_law_ball" s__law_ball ["_law_pen_here", "_law_world"] := defF_mk (st := s__law_ball) (PySem.W.mg_of X G a_18) l_18 c_18 k_18 fun _ _ _ _ _ _ us hl => match us, hl with | [_, _], _ => rfl
  have D19 : DefF K mg "_law_deed_right" s__law_deed_right ["_law_pen_here", "_law_room", "_law_world"] := defF_mk (st := s__law_deed_right) (PySem.W.mg_of X G a_19) l_19 c_19 k_19 fun _ _ _ _ _ _ us hl => match us, hl with | [_, _, _], _ => rfl
  have D20 : DefF K mg "_law_full_right" s__law_full_right ["_law_pen_here", "_law_n"] := defF_mk (st := s__law_full_right) (PySem.W.mg_of X G a_20) l_20 c_20 k_20 fun _ _ _ _ _ _ us hl => match us, hl with | [_, _], _ => rfl
  have D21 : DefF K mg "_law_long_right" s__law_long_right ["_law_pen_here", "_law_n"] := defF_mk (st := s__law_long_right) (PySem.W.mg_of X G a_21) l_21 c_21 k_21 fun _ _ _ _ _ _ us hl => match us, hl with | [_, _], _ => rfl
  have D22 : DefF K mg "law" s_law ["_law_script"] := defF_mk (st := s_law) (PySem.W.mg_of X G a_22) l_22 c_22 k_22 fun _ _ _ _ _ _ us hl => match us, hl with | [_], _ => rfl
  refine Exists.elim (spLaw_ofB (P := l.prog) (wo := w) (ec := (ecOf mg [(P10, (("_law_put_right" : Str) ++ ".<locals>." ++ "<lambda>")), (P13, (("_law_leave_right" : Str) ++ ".<locals>." ++ "<lambda>")), (P15, (("_law_back_right" : Str) ++ ".<locals>." ++ "<lambda>"))] ["NoBack", "NoBall", "TooMany"])) (k := 8) (f := f_law) (B := fun base => ∀ p ∈ [(k10, P10), (k13, P13), (k15, P15)], LamX.TabB base mg p.1 p.2) rfl D22 hfa fun base _ _ TB => ?_) fun fd hh => ⟨fd, [(k10, P10), (k13, P13), (k15, P15)], [(P10, (("_law_put_right" : Str) ++ ".<locals>." ++ "<lambda>")), (P13, (("_law_leave_right" : Str) ++ ".<locals>." ++ "<lambda>")), (P15, (("_law_back_right" : Str) ++ ".<locals>." ++ "<lambda>"))], (List.forall_mem_cons.mpr ⟨hts _ km_10, List.forall_mem_cons.mpr ⟨hts _ km_13, List.forall_mem_cons.mpr ⟨hts _ km_15, fun _ h => nomatch h⟩⟩⟩), (List.forall_mem_cons.mpr ⟨kn_10, List.forall_mem_cons.mpr ⟨kn_13, List.forall_mem_cons.mpr ⟨kn_15, fun _ h => nomatch h⟩⟩⟩), (List.forall_mem_cons.mpr ⟨PySem.W.codeHd_of_K X kh_10, List.forall_mem_cons.mpr ⟨PySem.W.codeHd_of_K X kh_13, List.forall_mem_cons.mpr ⟨PySem.W.codeHd_of_K X kh_15, fun _ h => nomatch h⟩⟩⟩), (List.forall_mem_cons.mpr ⟨⟨(k10, P10), by simp, rfl⟩, List.forall_mem_cons.mpr ⟨⟨(k13, P13), by simp, rfl⟩, List.forall_mem_cons.mpr ⟨⟨(k15, P15), by simp, rfl⟩, fun _ h => nomatch h⟩⟩⟩), hh.1, fun base h1 h2 h3 => hh.2 base h1 h2 h3⟩
  have LF10 : LamF K mg base (ecOf mg [(P10, (("_law_put_right" : Str) ++ ".<locals>." ++ "<lambda>")), (P13, (("_law_leave_right" : Str) ++ ".<locals>." ++ "<lambda>")), (P15, (("_law_back_right" : Str) ++ ".<locals>." ++ "<lambda>"))] ["NoBack", "NoBall", "TooMany"]) "_law_put_right" (("_law_put_right" : Str) ++ ".<locals>." ++ "<lambda>") := ⟨k10, P10, TB (k10, P10) (by simp), by simp [ecOf], by simp [ecOf, ke_10_13, Ne.symm ke_10_13, ke_10_15, Ne.symm ke_10_15], codeOf (PySem.W.mg_of X G a_10) l_10 kc_10⟩
  have LF13 : LamF K mg base (ecOf mg [(P10, (("_law_put_right" : Str) ++ ".<locals>." ++ "<lambda>")), (P13, (("_law_leave_right" : Str) ++ ".<locals>." ++ "<lambda>")), (P15, (("_law_back_right" : Str) ++ ".<locals>." ++ "<lambda>"))] ["NoBack", "NoBall", "TooMany"]) "_law_leave_right" (("_law_leave_right" : Str) ++ ".<locals>." ++ "<lambda>") := ⟨k13, P13, TB (k13, P13) (by simp), by simp [ecOf], by simp [ecOf, ke_10_13, Ne.symm ke_10_13, ke_13_15, Ne.symm ke_13_15], codeOf (PySem.W.mg_of X G a_13) l_13 kc_13⟩
  have LF15 : LamF K mg base (ecOf mg [(P10, (("_law_put_right" : Str) ++ ".<locals>." ++ "<lambda>")), (P13, (("_law_leave_right" : Str) ++ ".<locals>." ++ "<lambda>")), (P15, (("_law_back_right" : Str) ++ ".<locals>." ++ "<lambda>"))] ["NoBack", "NoBall", "TooMany"]) "_law_back_right" (("_law_back_right" : Str) ++ ".<locals>." ++ "<lambda>") := ⟨k15, P15, TB (k15, P15) (by simp), by simp [ecOf], by simp [ecOf, ke_10_15, Ne.symm ke_10_15, ke_13_15, Ne.symm ke_13_15], codeOf (PySem.W.mg_of X G a_15) l_15 kc_15⟩
  have F0_Room := fun_mk (st := inClass (topS 19) 0) cl_Room cc_Room ck_Room
  have MK_Room : MkRoom l.prog w K mg base (ecOf mg [(P10, (("_law_put_right" : Str) ++ ".<locals>." ++ "<lambda>")), (P13, (("_law_leave_right" : Str) ++ ".<locals>." ++ "<lambda>")), (P15, (("_law_back_right" : Str) ++ ".<locals>." ++ "<lambda>"))] ["NoBack", "NoBall", "TooMany"]) := ⟨_, _, ⟨exc_e (P := fun a => PySem.W.makesIn K a = true) (PySem.W.mg_of X G ca_Room) cm_Room, exc_e (P := fun a => PySem.W.findIn K (.ref a) "__init__" = some (some (.ref f0_Room))) (PySem.W.mg_of X G ca_Room) ci_Room, cf_Room, exc_e (P := fun a => PySem.W.keepIn K (.ref a) = true) (PySem.W.mg_of X G ca_Room) cq_Room⟩, ok_init_Room T F0_Room, F0_Room.binds fun _ _ _ _ _ _ us hl => match us, hl with | [_, _], _ => rfl⟩
  have C0 := ok_chosen (P := l.prog) (wo := w) (base := base) T D0 
  have C1 := ok_is_whole (P := l.prog) (wo := w) (base := base) T D1 
  have C2 := ok_sorted_load (P := l.prog) (wo := w) (base := base) T D2 
  have C3 := ok__law_pen (P := l.prog) (wo := w) (base := base) T D3 
  have C4 := ok__law_draw (P := l.prog) (wo := w) (base := base) T D4 
  have C5 := ok__law_is_whole (P := l.prog) (wo := w) (base := base) T D5 
  have C6 := fun k => ok__law_heard (P := l.prog) (wo := w) (base := base) T k
  have C7 := ok__law_counts (P := l.prog) (wo := w) (base := base) T D7 
  have C8 := ok_Room__stand (P := l.prog) (wo := w) (base := base) T D8 
  have C9 := ok_Room__put (P := l.prog) (wo := w) (base := base) T D9 C0 C8
  have C10 := ok__law_put_right (P := l.prog) (wo := w) (base := base) T D10 LF10 D6 C6 C9 C5 C7
  have C11 := ok_Room__where (P := l.prog) (wo := w) (base := base) T D11 C1
  have C12 := ok_Room__leave (P := l.prog) (wo := w) (base := base) T D12 C11
  have C13 := ok__law_leave_right (P := l.prog) (wo := w) (base := base) T D13 LF13 D6 C6 C11 C12 C5
  have C14 := ok_Room__back (P := l.prog) (wo := w) (base := base) T D14 
  have C15 := ok__law_back_right (P := l.prog) (wo := w) (base := base) T D15 LF15 D6 C6 C14
  have C16 := ok_Room__load (P := l.prog) (wo := w) (base := base) T D16 C2 C8
  have C17 := ok__law_shown_right (P := l.prog) (wo := w) (base := base) T D17 C11 C8 C16 C7
  have C18 := ok__law_ball (P := l.prog) (wo := w) (base := base) T D18 C4
  have C19 := ok__law_deed_right (P := l.prog) (wo := w) (base := base) T D19 C4 C10 C13 C15 C18
  have C20 := ok__law_full_right (P := l.prog) (wo := w) (base := base) T D20 MK_Room C4 C10 C13 C15 C17
  have C21 := ok__law_long_right (P := l.prog) (wo := w) (base := base) T D21 MK_Room C4 C10 C13 C15 C17
  have C22 := ok_law (P := l.prog) (wo := w) (base := base) T D22 MK_Room C3 C4 C10 C15 C17 C19 C20 C21
  exact C22
end Vm
open PySem PySem.W PyProof.Rows
set_option maxRecDepth 100000 in
set_option maxHeartbeats 0 in
theorem PySem.Challenge.cw_emptierbox_k57_a_room_holds : PySem.Challenge.rw_emptierbox_k57_a_room.Holds := by
  w_on; o_law; k_head; (case hw => w_witness2)
  k_fill
  refine Vm.walkGT (l := PySem.Challenge.rw_emptierbox_k57_a_room) (n := 63) (k := 8) (f := Vm.f_law) rfl (by decide) rfl ⟨rfl, by decide, by decide⟩ (fun w h Y => PySem.W.km_in_of Y) ?F (fun ns hl => Vm.law_true ns hl)
  case F =>
    intro w mg fa h Y KX G hmg
    refine' Vm.all_mk KX G hmg (PySem.W.km_tabs_of Y) ?ca_Room ?ci_Room ?cf_Room ?cl_Room ?cc_Room ?ck_Room ?cp_Room ?cd_Room ?co_Room ?cs_Room ?cm_Room ?cq_Room ?cn_Room_many ?cn_Room_lying ?cn_Room_known ?cn_Room_past ?a_0 ?l_0 ?c_0 ?k_0 ?a_1 ?l_1 ?c_1 ?k_1 ?a_2 ?l_2 ?c_2 ?k_2 ?a_3 ?l_3 ?c_3 ?k_3 ?a_4 ?l_4 ?c_4 ?k_4 ?a_5 ?l_5 ?c_5 ?k_5 ?a_6 ?l_6 ?c_6 ?k_6 ?a_7 ?l_7 ?c_7 ?k_7 ?a_8 ?i_8 ?l_8 ?c_8 ?k_8 ?a_9 ?i_9 ?l_9 ?c_9 ?k_9 ?a_10 ?l_10 ?c_10 ?k_10 ?a_11 ?i_11 ?l_11 ?c_11 ?k_11 ?a_12 ?i_12 ?l_12 ?c_12 ?k_12 ?a_13 ?l_13 ?c_13 ?k_13 ?a_14 ?i_14 ?l_14 ?c_14 ?k_14 ?a_15 ?l_15 ?c_15 ?k_15 ?a_16 ?i_16 ?l_16 ?c_16 ?k_16 ?a_17 ?l_17 ?c_17 ?k_17 ?a_18 ?l_18 ?c_18 ?k_18 ?a_19 ?l_19 ?c_19 ?k_19 ?a_20 ?l_20 ?c_20 ?k_20 ?a_21 ?l_21 ?c_21 ?k_21 ?a_22 ?l_22 ?c_22 ?k_22 ?z_abs ?z_all ?z_bool ?z_int ?z_isinstance ?z_len ?z_list ?z_min ?z_range ?z_sorted ?z_tuple ?xa_NoBack ?xx_NoBack ?xk_NoBack ?xb_NoBack ?xt_NoBack ?xa_NoBall ?xx_NoBall ?xk_NoBall ?xb_NoBall ?xt_NoBall ?xa_TooMany ?xx_TooMany ?xk_TooMany ?xb_TooMany ?xt_TooMany ?g_MOST_BALLS ?en ?et ?eg_NoBack ?eh_NoBack ?ed_NoBack ?ea_NoBack ?em_NoBack ?eg_NoBall ?eh_NoBall ?ed_NoBall ?ea_NoBall ?em_NoBall ?eg_TooMany ?eh_TooMany ?ed_TooMany ?ea_TooMany ?em_TooMany ?na_BallError ?na_Fuller ?na_NoBack ?na_NoBall ?na_NoName ?na_NoRow ?na_NoShare ?na_NoText ?na_TooMany ?na_Unlike ?ki_NoBack_Fuller ?ki_NoBall_Fuller ?ki_TooMany_Fuller ?ki_NoBack_NoBack ?ki_NoBall_NoBack ?ki_TooMany_NoBack ?ki_NoBack_NoBall ?ki_NoBall_NoBall ?ki_TooMany_NoBall ?ki_NoBack_NoName ?ki_NoBall_NoName ?ki_TooMany_NoName ?ki_NoBack_NoRow ?ki_NoBall_NoRow ?ki_TooMany_NoRow ?ki_NoBack_NoShare ?ki_NoBall_NoShare ?ki_TooMany_NoShare ?ki_NoBack_NoText ?ki_NoBall_NoText ?ki_TooMany_NoText ?ki_NoBack_TooMany ?ki_NoBall_TooMany ?ki_TooMany_TooMany ?ki_NoBack_Unlike ?ki_NoBall_Unlike ?ki_TooMany_Unlike ?z_ValueError ?ki_NoBack_ValueError ?ki_NoBall_ValueError ?ki_TooMany_ValueError ?kx_NoBack_BallError ?kx_NoBall_BallError ?kx_TooMany_BallError ?kc_10 ?kl_10 ?kp_10 ?kh_10 ?kn_10 ?km_10 ?kc_13 ?kl_13 ?kp_13 ?kh_13 ?kn_13 ?km_13 ?kc_15 ?kl_15 ?kp_15 ?kh_15 ?kn_15 ?km_15 ?ke_10_13 ?ke_10_15 ?ke_13_15
    (case ca_Room => k_is)
    (case ci_Room => k_is)
    (case cf_Room => k_is)
    (case cl_Room => k_is)
    (case cc_Room => k_is)
    (case ck_Room => k_is)
    (case cp_Room => k_is)
    (case cd_Room => k_is)
    (case co_Room => k_is)
    (case cs_Room => k_is)
    (case cm_Room => k_is)
    (case cq_Room => k_is)
    (case cn_Room_many => k_is)
    (case cn_Room_lying => k_is)
    (case cn_Room_known => k_is)
    (case cn_Room_past => k_is)
    (case a_0 => k_is)
    (case l_0 => k_is)
    (case c_0 => k_is)
    (case k_0 => k_is)
    (case a_1 => k_is)
    (case l_1 => k_is)
    (case c_1 => k_is)
    (case k_1 => k_is)
    (case a_2 => k_is)
    (case l_2 => k_is)
    (case c_2 => k_is)
    (case k_2 => k_is)
    (case a_3 => k_is)
    (case l_3 => k_is)
    (case c_3 => k_is)
    (case k_3 => k_is)
    (case a_4 => k_is)
    (case l_4 => k_is)
    (case c_4 => k_is)
    (case k_4 => k_is)
    (case a_5 => k_is)
    (case l_5 => k_is)
    (case c_5 => k_is)
    (case k_5 => k_is)
    (case a_6 => k_is)
    (case l_6 => k_is)
    (case c_6 => k_is)
    (case k_6 => k_is)
    (case a_7 => k_is)
    (case l_7 => k_is)
    (case c_7 => k_is)
    (case k_7 => k_is)
    (case a_8 => k_is)
    (case i_8 => k_is)
    (case l_8 => k_is)
    (case c_8 => k_is)
    (case k_8 => k_is)
    (case a_9 => k_is)
    (case i_9 => k_is)
    (case l_9 => k_is)
    (case c_9 => k_is)
    (case k_9 => k_is)
    (case a_10 => k_is)
    (case l_10 => k_is)
    (case c_10 => k_is)
    (case k_10 => k_is)
    (case a_11 => k_is)
    (case i_11 => k_is)
    (case l_11 => k_is)
    (case c_11 => k_is)
    (case k_11 => k_is)
    (case a_12 => k_is)
    (case i_12 => k_is)
    (case l_12 => k_is)
    (case c_12 => k_is)
    (case k_12 => k_is)
    (case a_13 => k_is)
    (case l_13 => k_is)
    (case c_13 => k_is)
    (case k_13 => k_is)
    (case a_14 => k_is)
    (case i_14 => k_is)
    (case l_14 => k_is)
    (case c_14 => k_is)
    (case k_14 => k_is)
    (case a_15 => k_is)
    (case l_15 => k_is)
    (case c_15 => k_is)
    (case k_15 => k_is)
    (case a_16 => k_is)
    (case i_16 => k_is)
    (case l_16 => k_is)
    (case c_16 => k_is)
    (case k_16 => k_is)
    (case a_17 => k_is)
    (case l_17 => k_is)
    (case c_17 => k_is)
    (case k_17 => k_is)
    (case a_18 => k_is)
    (case l_18 => k_is)
    (case c_18 => k_is)
    (case k_18 => k_is)
    (case a_19 => k_is)
    (case l_19 => k_is)
    (case c_19 => k_is)
    (case k_19 => k_is)
    (case a_20 => k_is)
    (case l_20 => k_is)
    (case c_20 => k_is)
    (case k_20 => k_is)
    (case a_21 => k_is)
    (case l_21 => k_is)
    (case c_21 => k_is)
    (case k_21 => k_is)
    (case a_22 => k_is)
    (case l_22 => k_is)
    (case c_22 => k_is)
    (case k_22 => k_is)
    (case z_abs => k_is)
    (case z_all => k_is)
    (case z_bool => k_is)
    (case z_int => k_is)
    (case z_isinstance => k_is)
    (case z_len => k_is)
    (case z_list => k_is)
    (case z_min => k_is)
    (case z_range => k_is)
    (case z_sorted => k_is)
    (case z_tuple => k_is)
    (case xa_NoBack => k_is)
    (case xx_NoBack => k_exc)
    (case xk_NoBack => k_is)
    (case xb_NoBack => k_is)
    (case xt_NoBack => k_is)
    (case xa_NoBall => k_is)
    (case xx_NoBall => k_exc)
    (case xk_NoBall => k_is)
    (case xb_NoBall => k_is)
    (case xt_NoBall => k_is)
    (case xa_TooMany => k_is)
    (case xx_TooMany => k_exc)
    (case xk_TooMany => k_is)
    (case xb_TooMany => k_is)
    (case xt_TooMany => k_is)
    (case g_MOST_BALLS => k_is)
    (case en => k_is)
    (case et => k_is)
    (case eg_NoBack => k_is)
    (case eh_NoBack => k_is)
    (case ed_NoBack => k_is)
    (case ea_NoBack => k_is)
    (case em_NoBack => k_is)
    (case eg_NoBall => k_is)
    (case eh_NoBall => k_is)
    (case ed_NoBall => k_is)
    (case ea_NoBall => k_is)
    (case em_NoBall => k_is)
    (case eg_TooMany => k_is)
    (case eh_TooMany => k_is)
    (case ed_TooMany => k_is)
    (case ea_TooMany => k_is)
    (case em_TooMany => k_is)
    (case na_BallError => k_is)
    (case na_Fuller => k_is)
    (case na_NoBack => k_is)
    (case na_NoBall => k_is)
    (case na_NoName => k_is)
    (case na_NoRow => k_is)
    (case na_NoShare => k_is)
    (case na_NoText => k_is)
    (case na_TooMany => k_is)
    (case na_Unlike => k_is)
    (case ki_NoBack_Fuller => kernel_rfl)
    (case ki_NoBall_Fuller => kernel_rfl)
    (case ki_TooMany_Fuller => kernel_rfl)
    (case ki_NoBack_NoBack => kernel_rfl)
    (case ki_NoBall_NoBack => kernel_rfl)
    (case ki_TooMany_NoBack => kernel_rfl)
    (case ki_NoBack_NoBall => kernel_rfl)
    (case ki_NoBall_NoBall => kernel_rfl)
    (case ki_TooMany_NoBall => kernel_rfl)
    (case ki_NoBack_NoName => kernel_rfl)
    (case ki_NoBall_NoName => kernel_rfl)
    (case ki_TooMany_NoName => kernel_rfl)
    (case ki_NoBack_NoRow => kernel_rfl)
    (case ki_NoBall_NoRow => kernel_rfl)
    (case ki_TooMany_NoRow => kernel_rfl)
    (case ki_NoBack_NoShare => kernel_rfl)
    (case ki_NoBall_NoShare => kernel_rfl)
    (case ki_TooMany_NoShare => kernel_rfl)
    (case ki_NoBack_NoText => kernel_rfl)
    (case ki_NoBall_NoText => kernel_rfl)
    (case ki_TooMany_NoText => kernel_rfl)
    (case ki_NoBack_TooMany => kernel_rfl)
    (case ki_NoBall_TooMany => kernel_rfl)
    (case ki_TooMany_TooMany => kernel_rfl)
    (case ki_NoBack_Unlike => kernel_rfl)
    (case ki_NoBall_Unlike => kernel_rfl)
    (case ki_TooMany_Unlike => kernel_rfl)
    (case z_ValueError => k_is)
    (case ki_NoBack_ValueError => kernel_rfl)
    (case ki_NoBall_ValueError => kernel_rfl)
    (case ki_TooMany_ValueError => kernel_rfl)
    (case kx_NoBack_BallError => kernel_rfl)
    (case kx_NoBall_BallError => kernel_rfl)
    (case kx_TooMany_BallError => kernel_rfl)
    (case kc_10 => rfl)
    (case kl_10 => k_is)
    (case kp_10 => rfl)
    (case kh_10 => kernel_rfl)
    (case kn_10 => kernel_rfl)
    (case km_10 => decide)
    (case kc_13 => rfl)
    (case kl_13 => k_is)
    (case kp_13 => rfl)
    (case kh_13 => kernel_rfl)
    (case kn_13 => kernel_rfl)
    (case km_13 => decide)
    (case kc_15 => rfl)
    (case kl_15 => k_is)
    (case kp_15 => rfl)
    (case kh_15 => kernel_rfl)
    (case kn_15 => kernel_rfl)
    (case km_15 => decide)
    (case ke_10_13 => decide)
    (case ke_10_15 => decide)
    (case ke_13_15 => decide)
