import PyProof.Rows.All
import Wide.All
import OpenK.AllK
import Wide.FinOn
import HandS.ForMost
import HandS.ForExc
import HandS.Lambda
import KE.KDictKeyed
import HandS.IsInst
import HandS.Wide
import HandS.TupAny
import HandS.TupLe
import HandS.Flow
import KE.DataCmp
import KE.DataEq
import HandS.Zip
import HandS.Style
import HandS.SortInts
import KE.KTupSum
import PyProof.Rows.SeqMore
import HandS.TupMul
import PyProof.ReprReads
import PyProof.ReprRoads
import KE.SortData
import HandS.SetFor
import HandS.RaiseMore
import HandS.SortKw
import KE.DataMinMax
import KE.DataFind
import HandS.FStrTup
import KE.GoesMore
import PyProof.ReprLen
import KE.KRevSl
import HandS.ExcIs
import HandS.TryOnly
import HandS.Codes
import HandS.EndTab
import KE.KNestM
import KE.KLam
import HandS.WideBits
import KE.KDictSum
import HandS.DictTup
import HandS.Conv
import HandS.SetKeys
import KE.KDictCopyH
import HandS.TupLen
import KE.KDictPairs
import KE.KDictDisplayH
import PyProof.DictTable
import HandS.Comp
import HandS.SortOrd
import PyProof.Rows.SetFrom
import HandS.DictEq
import HandS.DeepEq
import HandS.Iter
import HandS.TupSets
import HandS.Strs
import PySem.Challenge.RW_emptierbox_k22_whole_all_rows_of_draws
set_option Elab.async false
set_option linter.all false
set_option maxRecDepth 100000
set_option maxHeartbeats 4000000
/-! A small machine by values: what Python's text does with data, as total functions; each construct's rule over the hand layer. -/
namespace Vm
open PySem L2
abbrev D := PyData
abbrev Fg := PySem.W.Frag
/-- a dict's key as data -/
def kD : L2.Key → D
  | .inl i => .int i
  | .inr x => .str x
/-- a tuple of keys as data -/
def tupK (ks : List L2.Key) : D := .tuple (ks.map kD)
/-- ahead of the entries of a dict whose keys are tuples -/
def tagT : D × D := (.list [], .none)
def isTag : List (D × D) → Bool
  | (.list _, _) :: _ => true
  | _ => false
/-- ahead of the entries of a dict whose keys are tuples of tuples -/
def tagN : D × D := (.list [.none], .none)
/-- ahead of the entries of a locked dict whose keys are plain -/
def tagF : D × D := (.list [.bool true], .none)
/-! ### a dict whose keys are tuples of tuples of whole numbers -/
mutual
def nkPlain : NestedKey → Bool
  | .num _ => true
  | .tup ks => nkPlainAll ks
  | .none => false
  | .text _ => false
def nkPlainAll : List NestedKey → Bool
  | [] => true
  | k :: ks => nkPlain k && nkPlainAll ks
end
mutual
/-- the hash of such a key: no text, so no World -/
def nkH : NestedKey → Int
  | .num i => hashInt i
  | .tup ks => reduceHash (Builtin.Tuple.tupleHashOf (nkHs ks))
  | .none => 0
  | .text _ => 0
def nkHs : List NestedKey → List Int
  | [] => []
  | k :: ks => nkH k :: nkHs ks
end
def nkRel (a : NestedKey × Addr × V) (b : NestedKey × Addr × Value) : Prop := a.1 = b.1 ∧ a.2.1 = b.2.1 ∧ RelV a.2.2 b.2.2
def NkE (kas : List (NestedKey × Addr × V)) (p : Addr) (h : Heap) : Prop :=
  ∃ (o : Obj) (es : Array DictEntry) (ep : Nat) (xs : List (NestedKey × Addr × Value)), h.get? p = some o ∧ o.ExactDict ∧ o.data = .dict es ep ∧ Paired nkRel kas xs ∧ es.toList = xs.map fun x => ⟨nkH x.1, .ref x.2.1, x.2.2⟩
def NkO (kas : List (NestedKey × Addr × V)) (p : Addr) : HO := .ext (NkE kas p)
def NkG (kas : List (NestedKey × Addr × V)) (p : Addr) : Prop := kas.length ≤ sizeLine ∧ (p == sysModules) = false ∧ (kas.map (·.1)).Nodup
/-! ### a value stands for data -/
mutual
inductive Rp (K : Fg) (H : Hp) : V → PyData → Prop
  | non : Rp K H .non .none
  | bl (b : Bool) : Rp K H (.bl b) (.bool b)
  | int (i : Int) : Rp K H (.int i) (.int i)
  | str (x : Str) : Rp K H (.str x) (.str x)
  | lst {a : Addr} {xs : List V} {ds : List PyData} : SqL K H a xs → RpAll K H xs ds → Rp K H (.ref a) (.list ds)
  | tup {a : Addr} {xs : List V} {ds : List PyData} : H a = some (.tup xs) → RpAll K H xs ds → Rp K H (.ref a) (.tuple ds)
  | dct {a : Addr} {ws : List (L2.Key × V)} {es : List (PyData × PyData)} : H a = some (.dK ws) → RpKv K H ws es → Rp K H (.ref a) (.dict es)
  | dctT {a : Addr} {od : Obj} {ws : List (List L2.Key × V)} {es : List (PyData × PyData)} : H a = some (.frz od (.dT ws)) → RpKt K H ws es → Rp K H (.ref a) (.dict (tagT :: es))
  | dctN {a : Addr} {od : Obj} {kas : List (NestedKey × Addr × V)} {es : List (PyData × PyData)} : H a = some (.frz od (NkO kas a)) → NkG kas a → RpKn K H kas es → Rp K H (.ref a) (.dict (tagN :: es))
  | dctF {a : Addr} {od : Obj} {ws : List (L2.Key × V)} {es : List (PyData × PyData)} : H a = some (.frz od (.dK ws)) → RpKv K H ws es → Rp K H (.ref a) (.dict (tagF :: es))
inductive RpAll (K : Fg) (H : Hp) : List V → List PyData → Prop
  | nil : RpAll K H [] []
  | cons {v : V} {vs : List V} {d : PyData} {ds : List PyData} : Rp K H v d → RpAll K H vs ds → RpAll K H (v :: vs) (d :: ds)
inductive RpKv (K : Fg) (H : Hp) : List (L2.Key × V) → List (PyData × PyData) → Prop
  | nil : RpKv K H [] []
  | cons {k : L2.Key} {v : V} {ws : List (L2.Key × V)} {d : PyData} {es : List (PyData × PyData)} : Rp K H v d → RpKv K H ws es → RpKv K H ((k, v) :: ws) ((kD k, d) :: es)
inductive RpKt (K : Fg) (H : Hp) : List (List L2.Key × V) → List (PyData × PyData) → Prop
  | nil : RpKt K H [] []
  | cons {k : List L2.Key} {v : V} {ws : List (List L2.Key × V)} {d : PyData} {es : List (PyData × PyData)} : Rp K H v d → RpKt K H ws es → RpKt K H ((k, v) :: ws) ((tupK k, d) :: es)
inductive RpKn (K : Fg) (H : Hp) : List (NestedKey × Addr × V) → List (PyData × PyData) → Prop
  | nil : RpKn K H [] []
  | cons {k : NestedKey} {b : Addr} {v : V} {kas : List (NestedKey × Addr × V)} {x d : PyData} {es : List (PyData × PyData)} : k.data = x → nkPlain k = true → k.depth ≤ 8 → Rp K H (.ref b) x → Rp K H v d → RpKn K H kas es → RpKn K H ((k, b, v) :: kas) ((x, d) :: es)
end
section
variable {K : Fg} {G H : Hp}
mutual
theorem Rp.mono (e : Same G H) : ∀ (d : PyData) (v : V), Rp K G v d → Rp K H v d
  | .none, _, h => by cases h; exact .non
  | .bool _, _, h => by cases h; exact .bl _
  | .int _, _, h => by cases h; exact .int _
  | .str _, _, h => by cases h; exact .str _
  | .list ds, _, h => by
    cases h with
    | lst hs ha => exact .lst (e.seq hs) (RpAll.mono e ds _ ha)
  | .tuple ds, _, h => by
    cases h with
    | tup hs ha => exact .tup (e _ _ hs) (RpAll.mono e ds _ ha)
  | .dict es, _, h => by
    cases h with
    | dct hs ha => exact .dct (e _ _ hs) (RpKv.mono e es _ ha)
    | dctT hs ha => exact .dctT (e _ _ hs) (RpKt.mono e _ _ ha)
    | dctN hs g ha => exact .dctN (e _ _ hs) g (RpKn.mono e _ _ ha)
    | dctF hs ha => exact .dctF (e _ _ hs) (RpKv.mono e _ _ ha)
theorem RpAll.mono (e : Same G H) : ∀ (ds : List PyData) (vs : List V), RpAll K G vs ds → RpAll K H vs ds
  | [], _, h => by cases h; exact .nil
  | d :: ds, _, h => by
    cases h with
    | cons h1 h2 => exact .cons (Rp.mono e d _ h1) (RpAll.mono e ds _ h2)
theorem RpKv.mono (e : Same G H) : ∀ (es : List (PyData × PyData)) (ws : List (L2.Key × V)), RpKv K G ws es → RpKv K H ws es
  | [], _, h => by cases h; exact .nil
  | (_, d) :: es, _, h => by
    cases h with
    | cons h1 h2 => exact .cons (Rp.mono e d _ h1) (RpKv.mono e es _ h2)
theorem RpKt.mono (e : Same G H) : ∀ (es : List (PyData × PyData)) (ws : List (List L2.Key × V)), RpKt K G ws es → RpKt K H ws es
  | [], _, h => by cases h; exact .nil
  | (_, d) :: es, _, h => by
    cases h with
    | cons h1 h2 => exact .cons (Rp.mono e d _ h1) (RpKt.mono e es _ h2)
theorem RpKn.mono (e : Same G H) : ∀ (es : List (PyData × PyData)) (ws : List (NestedKey × Addr × V)), RpKn K G ws es → RpKn K H ws es
  | [], _, h => by cases h; exact .nil
  | (x, d) :: es, _, h => by
    cases h with
    | cons q1 q2 q3 h0 h1 h2 => exact .cons q1 q2 q3 (Rp.mono e x _ h0) (Rp.mono e d _ h1) (RpKn.mono e es _ h2)
end
theorem RpAll.length : ∀ {vs : List V} {ds : List PyData}, RpAll K H vs ds → vs.length = ds.length
  | _, _, .nil => rfl
  | _, _, .cons _ t => congrArg (· + 1) t.length
theorem RpAll.get : ∀ {vs : List V} {ds : List PyData} {i : Nat} {d : PyData}, RpAll K H vs ds → ds[i]? = some d → ∃ v, vs[i]? = some v ∧ Rp K H v d
  | _, _, _, _, .nil, e => by simp at e
  | _, _, 0, _, .cons r _, e => by
    simp at e
    subst e
    exact ⟨_, rfl, r⟩
  | _, _, i + 1, d, .cons _ t, e => by
    obtain ⟨v, h1, h2⟩ := RpAll.get (i := i) (d := d) t (by simpa using e)
    exact ⟨v, by simpa using h1, h2⟩
theorem RpAll.append : ∀ {vs ws : List V} {ds es : List PyData}, RpAll K H vs ds → RpAll K H ws es → RpAll K H (vs ++ ws) (ds ++ es)
  | _, _, _, _, .nil, s => s
  | _, _, _, _, .cons r t, s => .cons r (t.append s)
theorem RpAll.set {v : V} {d : PyData} (r : Rp K H v d) : ∀ {vs : List V} {ds : List PyData} (i : Nat), RpAll K H vs ds → RpAll K H (vs.set i v) (ds.set i d)
  | _, _, _, .nil => .nil
  | _, _, 0, .cons _ t => .cons r t
  | _, _, i + 1, .cons q t => .cons q (RpAll.set r i t)
theorem RpAll.take : ∀ {vs : List V} {ds : List PyData} (n : Nat), RpAll K H vs ds → RpAll K H (vs.take n) (ds.take n)
  | _, _, 0, _ => .nil
  | _, _, _ + 1, .nil => .nil
  | _, _, n + 1, .cons r t => .cons r (t.take n)
theorem RpAll.drop : ∀ {vs : List V} {ds : List PyData} (n : Nat), RpAll K H vs ds → RpAll K H (vs.drop n) (ds.drop n)
  | _, _, 0, r => r
  | _, _, _ + 1, .nil => .nil
  | _, _, n + 1, .cons _ t => t.drop n
theorem RpAll.reverse : ∀ {vs : List V} {ds : List PyData}, RpAll K H vs ds → RpAll K H vs.reverse ds.reverse
  | _, _, .nil => .nil
  | _, _, .cons r t => by
    rw [List.reverse_cons, List.reverse_cons]
    exact t.reverse.append (.cons r .nil)
end
/-! ### cells, slots, states -/
/-- other objects that change, and what they hold: a dict whose keys are tuples of tuples -/
inductive GX where
  | n (kvs : List (NestedKey × D))
/-- what a mutable object holds; gone: it became data -/
inductive Cell where
  | l (ds : List D)
  | k (kvs : List (L2.Key × D))
  | t (kvs : List (List L2.Key × D))
  | r (ks : List (List L2.Key))
  | i (n j : Nat) (ds : List D)
  | g (x : GX)
  | gone
/-- an element of a list or a tuple that holds cells too -/
inductive El where
  | d (x : D)
  | c (k : Nat)
/-- a name's slot: without value (or forgotten), data, a cell -/
inductive Sl where
  | u
  | d (x : D)
  | c (n : Nat)
  | x (n : String)
  | f
  | t (b : Bool) (es : List El)
structure S where
  v : List Sl
  m : List Cell
/-- a value: data, an object just made that nobody else holds, a cell -/
inductive Rv where
  | d (x : D)
  | new (c : Cell)
  | ref (n : Nat)
  | t (b : Bool) (es : List El)
inductive R (α : Type) where
  | ok (a : α) (s : S)
  | ex (e : String) (s : S)
  | bad
def R.bind {α β : Type} (r : R α) (k : α → S → R β) : R β :=
  match r with
  | .ok a s => k a s
  | .ex e s => .ex e s
  | .bad => .bad
def Res {α : Type} (P : α → S → Prop) (E : String → S → Prop) : R α → Prop
  | .ok a s => P a s
  | .ex e s => E e s
  | .bad => False
theorem Res.bind {α β : Type} {P : β → S → Prop} {E : String → S → Prop} {r : R α} {k : α → S → R β} (h : Res P E (r.bind k)) : Res (fun a s => Res P E (k a s)) E r := by
  cases r <;> exact h
theorem Res.mono {α : Type} {P P' : α → S → Prop} {E E' : String → S → Prop} {r : R α} (h : Res P E r) (hp : ∀ a s, P a s → P' a s) (he : ∀ e s, E e s → E' e s) : Res P' E' r := by
  cases r with
  | ok a s => exact hp a s h
  | ex e s => exact he e s h
  | bad => exact h
def KvAll (K : Fg) (G : Hp) {κ : Type} : List (κ × V) → List (κ × D) → Prop := Paired fun (p : κ × V) (q : κ × D) => p.1 = q.1 ∧ Rp K G p.2 q.2
def NkR (K : Fg) (G : Hp) (a : NestedKey × Addr × V) (q : NestedKey × D) : Prop := a.1 = q.1 ∧ nkPlain a.1 = true ∧ a.1.depth ≤ 8 ∧ Rp K G (.ref a.2.1) a.1.data ∧ Rp K G a.2.2 q.2
def GOk (K : Fg) (G : Hp) (p : Addr) (o : HO) : GX → Prop
  | .n kvs => ∃ kas, o = NkO kas p ∧ NkG kas p ∧ Paired (NkR K G) kas kvs
theorem GOk.mono {K : Fg} {G G' : Hp} {p : Addr} {o : HO} {x : GX} (e : Same G G') (h : GOk K G p o x) : GOk K G' p o x := by
  cases x with
  | n kvs =>
    obtain ⟨kas, h1, h2, h3⟩ := h
    exact ⟨kas, h1, h2, Paired.mapP h3 fun a q z => ⟨z.1, z.2.1, z.2.2.1, Rp.mono e _ _ z.2.2.2.1, Rp.mono e _ _ z.2.2.2.2⟩⟩
def COk (K : Fg) (G H : Hp) (p : Addr) : Cell → Prop
  | .l ds => G p = none ∧ ∃ vs, H p = some (.lst vs) ∧ RpAll K G vs ds
  | .k kvs => G p = none ∧ ∃ ws, H p = some (.dK ws) ∧ KvAll K G ws kvs
  | .t kvs => G p = none ∧ ∃ ws, H p = some (.dT ws) ∧ KvAll K G ws kvs
  | .r ks => G p = none ∧ ∃ ws : List (List L2.Key × V), H p = some (.dT ws) ∧ ws.map (·.1) = ks
  | .i _ _ ds => G p = none ∧ ∃ vs, H p = some (.lst vs) ∧ RpAll K G vs ds
  | .g x => G p = none ∧ ∃ o, H p = some o ∧ GOk K G p o x
  | .gone => ∃ o, G p = some o
/-- a tuple or a list that never changes, some elements data, some cells -/
def outB : Bool → List V → HO
  | true, vs => .tup vs
  | false, vs => .lst vs
def ElOk (K : Fg) (G : Hp) (r : List Addr) (v : V) : El → Prop
  | .d x => Rp K G v x
  | .c k => ∃ p, v = .ref p ∧ r[k]? = some p
def VtOk (K : Fg) (G : Hp) (r : List Addr) (x : V) (b : Bool) (es : List El) : Prop := ∃ a vs, x = .ref a ∧ G a = some (outB b vs) ∧ Paired (ElOk K G r) vs es
theorem VtOk.mono {K : Fg} {G G' : Hp} {r r' : List Addr} {x : V} {b : Bool} {es : List El} (g : Same G G') (hr : ∀ (k : Nat) (p : Addr), r[k]? = some p → r'[k]? = some p) (h : VtOk K G r x b es) : VtOk K G' r' x b es := by
  obtain ⟨a, vs, e, h1, h2⟩ := h
  refine ⟨a, vs, e, g _ _ h1, Paired.mapP h2 fun v el q => ?_⟩
  cases el with
  | d y => exact Rp.mono g _ _ q
  | c k =>
    obtain ⟨p, e1, e2⟩ := q
    exact ⟨p, e1, hr k p e2⟩
/-- the ground (what never changes), the cells' addresses, what others hold, the heap -/
structure Wd where
  G : Hp
  r : List Addr
  F : Addr → Prop
  H : Hp
def NoTb (o : HO) : Prop := ∀ ps, o ≠ .tbl ps
/-- the world went on: the ground grew, what is no cell stands as it stood, cells came -/
structure Le (w w' : Wd) : Prop where
  g : Same w.G w'.G
  k : ∀ a o, w.H a = some o → a ∉ w.r → ∃ o', w'.H a = some o' ∧ (NoTb o → o' = o)
  p : w.r <+: w'.r
  f : ∀ p, p ∈ w'.r → p ∈ w.r ∨ w.H p = none
  s : w'.F = w.F
theorem Le.kN {w w' : Wd} (a : Le w w') {p : Addr} {o : HO} (e : w.H p = some o) (n : p ∉ w.r) (h : NoTb o) : w'.H p = some o := by
  obtain ⟨o', e1, e2⟩ := a.k p o e n
  rw [e1, e2 h]
theorem Le.kX {w w' : Wd} (a : Le w w') {p : Addr} {o : HO} (e : w.H p = some o) (n : p ∉ w.r) : ∃ o', w'.H p = some o' := by
  obtain ⟨o', e1, _⟩ := a.k p o e n
  exact ⟨o', e1⟩
def NoTG (G : Hp) : Prop := ∀ b o, G b = some o → NoTb o
theorem noTG_upd {G : Hp} {p : Addr} {o : HO} (h : NoTG G) (n : NoTb o) : NoTG (upd G p o) := fun b u e => by
  by_cases hb : b = p
  · subst hb
    rw [upd_same] at e
    cases e
    exact n
  · rw [upd_ne hb] at e
    exact h b u e
theorem noTb_tup {vs : List V} : NoTb (.tup vs) := fun _ z => by cases z
theorem noTb_l {vs : List V} : NoTb (.lst vs) := fun _ z => by cases z
theorem noTb_k {vs : List (L2.Key × V)} : NoTb (.dK vs) := fun _ z => by cases z
theorem noTb_t {vs : List (List L2.Key × V)} : NoTb (.dT vs) := fun _ z => by cases z
theorem Le.refl (w : Wd) : Le w w := ⟨Same.refl _, fun _ _ e _ => ⟨_, e, fun _ => rfl⟩, List.prefix_refl _, fun _ h => .inl h, rfl⟩
theorem Le.trans {w w1 w2 : Wd} (a : Le w w1) (b : Le w1 w2) : Le w w2 where
  g := a.g.trans b.g
  k := fun c o e n => by
    obtain ⟨o1, e1, q1⟩ := a.k c o e n
    obtain ⟨o2, e2, q2⟩ := b.k c o1 e1 fun m => by
      rcases a.f c m with h | h
      · exact n h
      · rw [e] at h; cases h
    exact ⟨o2, e2, fun hn => by
      have := q1 hn
      subst this
      exact q2 hn⟩
  p := a.p.trans b.p
  f := fun c h => by
    rcases b.f c h with h1 | h1
    · exact a.f c h1
    · by_cases hm : c ∈ w.r
      · exact .inl hm
      · right
        cases q : w.H c with
        | none => rfl
        | some o =>
          obtain ⟨_, this, _⟩ := a.k c o q hm
          rw [h1] at this; cases this
  s := b.s.trans a.s
theorem Le.cell {w w' : Wd} (a : Le w w') {n : Nat} {p : Addr} (h : w.r[n]? = some p) : w'.r[n]? = some p := by
  obtain ⟨t, e⟩ := a.p
  rw [← e]
  rw [List.getElem?_append_left]
  · exact h
  · exact (List.getElem?_eq_some_iff.mp h).1
theorem Le.mem {w w' : Wd} (a : Le w w') {p : Addr} (h : p ∈ w.r) : p ∈ w'.r := by
  obtain ⟨t, e⟩ := a.p
  rw [← e]
  exact List.mem_append_left _ h
abbrev Wd.f (w : Wd) (F : Addr → Prop) : Wd := ⟨w.G, w.r, F, w.H⟩
theorem Le.ch {w w' : Wd} (a : Le w w') (F : Addr → Prop) : Le (w.f F) (w'.f F) := ⟨a.g, a.k, a.p, a.f, rfl⟩
/-- an object that stays, where no cell is -/
theorem Le.stays {w w' : Wd} (a : Le w w') {p : Addr} {o : HO} (n : p ∉ w.r) (e : w.H p = some o) (h : NoTb o) : p ∉ w'.r ∧ w'.H p = some o := by
  refine ⟨fun m => ?_, a.kN e n h⟩
  rcases a.f p m with z | z
  · exact n z
  · rw [e] at z
    cases z
/-- the world ahead of all -/
def bot : Wd := ⟨fun _ => none, [], fun _ => False, fun _ => none⟩
theorem Le.bot (w : Wd) : Le bot (w.f bot.F) := ⟨fun _ _ e => (nomatch (show (none : Option HO) = some _ from e)), fun _ _ e _ => (nomatch (show (none : Option HO) = some _ from e)), List.nil_prefix, fun _ _ => .inr rfl, rfl⟩
/-- exceptions by the names of their classes; the tables of code objects of the defs that hold lambdas -/
structure EC where
  f : String → Addr
  T : List (Addr × Str)
  X : List String
  w : Wd
  lf : Addr
instance : CoeFun EC fun _ => String → Addr := ⟨EC.f⟩
def TabOk (ec : EC) (F : Addr → Prop) (H : Hp) : Prop := ∀ q, q ∈ ec.T → F q.1 ∧ LamX.TabS H q.1 q.2
theorem TabOk.ext {ec : EC} {F : Addr → Prop} {H H' : Hp} (t : TabOk ec F H) (h : ∀ b o, H b = some o → H' b = some o) : TabOk ec F H' := fun q hq => ⟨(t q hq).1, (t q hq).2.ext h⟩
theorem TabOk.back {ec : EC} {F F' : Addr → Prop} {H H' : Hp} (t : TabOk ec F H) (t' : TabOk ec F' H') : TabOk ec F H' := fun q hq => ⟨(t q hq).1, (t' q hq).2⟩
theorem TabOk.f {ec : EC} {F F' : Addr → Prop} {H : Hp} (t : TabOk ec F H) (h : ∀ p, F p → F' p) : TabOk ec F' H := fun q hq => ⟨h _ (t q hq).1, (t q hq).2⟩
/-- an object that is no table and no code object is written -/
theorem TabOk.put {ec : EC} {F : Addr → Prop} {H : Hp} {p : Addr} {o o' : HO} (t : TabOk ec F H) (ho : H p = some o) (h1 : NoTb o) (h2 : ∀ a q, o ≠ LamX.CodeO a q) : TabOk ec F (upd H p o') := fun q hq => by
  obtain ⟨a, ps, e1, e2, e3⟩ := t q hq
  have n1 : q.1 ≠ p := fun z => by
    rw [z, ho] at e1
    exact h1 ps (Option.some.inj e1)
  refine ⟨a, ps, by rw [upd_ne n1]; exact e1, e2, fun pos cv hc => ?_⟩
  obtain ⟨c, e4, e5⟩ := e3 pos cv hc
  have n2 : c ≠ p := fun z => by
    rw [z, ho] at e5
    exact h2 _ _ (Option.some.inj e5)
  exact ⟨c, e4, by rw [upd_ne n2]; exact e5⟩
/-- the lists within a dict of lists stand where the dict says -/
def RfL (w : Wd) (m : List Cell) : Prop := ∀ (t : Nat) (q : Addr) (n j : Nat) (ds : List D), w.r[t]? = some q → m[t]? = some (.i n j ds) → n < t ∧ ∀ (p : Addr) (ks : List (List L2.Key)), w.r[n]? = some p → m[n]? = some (.r ks) → ∃ (ws : List (List L2.Key × V)) (k : List L2.Key), w.H p = some (.dT ws) ∧ ws[j]? = some (k, .ref q)
def NoTup (o : HO) : Prop := ∀ vs, o ≠ .tup vs
/-- what others hold is no tuple -/
def FT (ec : EC) (w : Wd) : Prop := ∀ p, w.F p → p ∈ ec.T.map (·.1) ∨ ∃ o, w.H p = some o ∧ NoTb o ∧ NoTup o
def NV (ec : EC) (w : Wd) (m : List Cell) : Prop := RfL w m ∧ FT ec w
structure Mem (ec : EC) (K : Fg) (w : Wd) (m : List Cell) : Prop where
  ext : Same w.G w.H
  len : w.r.length = m.length
  nd : w.r.Nodup
  cell : ∀ (n : Nat) (p : Addr) (c : Cell), w.r[n]? = some p → m[n]? = some c → COk K w.G w.H p c
  fo : ∀ p, w.F p → w.G p = none ∧ p ∉ w.r ∧ ∃ o, w.H p = some o
  tab : TabOk ec w.F w.H
  inv : Le ec.w (w.f ec.w.F)
  gt : NoTG w.G
  nv : NV ec w m
/-- a caught exception of the class at C -/
def ExO (a C : Addr) : HO := .ext fun h => ∃ oe, PySem.W.InstAt h a oe C none
theorem noTb_x {a C : Addr} : NoTb (ExO a C) := fun _ z => by
  unfold ExO at z
  cases z
/-- no code object and no caught exception -/
def NoX (o : HO) : Prop := (∀ a q, o ≠ LamX.CodeO a q) ∧ ∀ a C, o ≠ ExO a C
theorem noX_of {o : HO} (h : ∀ f, o ≠ .ext f) : NoX o := ⟨fun a q z => by
    unfold LamX.CodeO at z
    exact h _ z, fun a C z => by
    unfold ExO at z
    exact h _ z⟩
theorem relV_ex (v : V) : ∃ u, RelV v u := by
  cases v <;> first | exact ⟨_, rfl⟩ | exact ⟨_, ⟨0, rfl⟩⟩
theorem nkRel_ex : ∀ kas : List (NestedKey × Addr × V), ∃ xs : List (NestedKey × Addr × Value), Paired nkRel kas xs
  | [] => ⟨[], .nil⟩
  | (k, b, v) :: kas => by
    obtain ⟨u, hu⟩ := relV_ex v
    obtain ⟨xs, hx⟩ := nkRel_ex kas
    exact ⟨(k, b, u) :: xs, .cons ⟨rfl, rfl, hu⟩ hx⟩
theorem nkE_some (kas : List (NestedKey × Addr × V)) (p : Addr) : ∃ h : Heap, NkE kas p h ∧ ∀ a o, h.get? a = some o → o.cls = .type "dict" ∧ ∃ es ep, o.data = .dict es ep := by
  obtain ⟨xs, hx⟩ := nkRel_ex kas
  let es : Array DictEntry := (xs.map fun x => (⟨nkH x.1, .ref x.2.1, x.2.2⟩ : DictEntry)).toArray
  let o : Obj := { cls := .type "dict", data := .dict es 0 }
  let h : Heap := { objs := Array.replicate (p + 1) o }
  have he : ∀ a, h.get? a = if a < p + 1 then some o else none := fun a => by
    have e0 : (Array.replicate (p + 1) o)[a]? = if a < p + 1 then some o else none := Array.getElem?_replicate
    show (match (Array.replicate (p + 1) o)[a]? with
      | some ⟨_, _, .freed, _⟩ => none
      | o => o) = _
    rw [e0]
    by_cases ha : a < p + 1
    · rw [if_pos ha]
    · rw [if_neg ha]
  have hg : ∀ a (u : Obj), h.get? a = some u → u = o := fun a u e => by
    rw [he] at e
    split at e
    · exact (Option.some.inj e).symm
    · cases e
  refine ⟨h, ⟨o, es, 0, xs, ?_, ?_, rfl, hx, ?_⟩, fun a u e => ?_⟩
  · rw [he, if_pos (Nat.lt_succ_self p)]
  · exact ⟨rfl, rfl, rfl⟩
  · simp [es]
  · rw [hg a u e]
    exact ⟨rfl, _, _, rfl⟩
theorem GOk.noX {K : Fg} {G : Hp} {p : Addr} {o : HO} {x : GX} (h : GOk K G p o x) : NoX o := by
  cases x with
  | n kvs =>
    obtain ⟨kas, rfl, _⟩ := h
    obtain ⟨hh, h1, h2⟩ := nkE_some kas p
    refine ⟨fun a q z => ?_, fun a C z => ?_⟩
    · unfold NkO LamX.CodeO at z
      have z := HO.ext.inj z
      rw [z] at h1
      obtain ⟨oc, vs, t, e1, e2, _⟩ := h1
      obtain ⟨_, es, ep, e3⟩ := h2 _ _ e1
      rw [e2] at e3
      cases e3
    · unfold NkO ExO at z
      have z := HO.ext.inj z
      rw [z] at h1
      obtain ⟨oe, e1⟩ := h1
      obtain ⟨e3, _⟩ := h2 _ _ e1.1
      have e4 := e1.2
      rw [e3] at e4
      cases e4
theorem GOk.ntb {K : Fg} {G : Hp} {p : Addr} {o : HO} {x : GX} (h : GOk K G p o x) : NoTb o := by
  cases x with
  | n kvs =>
    obtain ⟨kas, rfl, _⟩ := h
    exact fun _ z => by unfold NkO at z; cases z
theorem GOk.ntup {K : Fg} {G : Hp} {p : Addr} {o : HO} {x : GX} (h : GOk K G p o x) : NoTup o := by
  cases x with
  | n kvs =>
    obtain ⟨kas, rfl, _⟩ := h
    exact fun _ z => by unfold NkO at z; cases z
def SlOk (ec : EC) (K : Fg) (w : Wd) (y : Option (Option V)) : Sl → Prop
  | .u => True
  | .d x => ∃ v, y = some (some v) ∧ Rp K w.G v x
  | .c n => ∃ p, y = some (some (.ref p)) ∧ w.r[n]? = some p
  | .x n => n ∈ ec.X ∧ ∃ a, y = some (some (.ref a)) ∧ a ∉ w.r ∧ w.H a = some (ExO a (ec.f n))
  | .f => y = some (some (.ref ec.lf))
  | .t b es => ∃ v, y = some (some v) ∧ VtOk K w.G w.r v b es
structure Rel (ec : EC) (K : Fg) (w : Wd) (σ : St) (s : S) : Prop where
  mem : Mem ec K w s.m
  len : σ.length = s.v.length
  slot : ∀ (i : Nat) (sl : Sl), s.v[i]? = some sl → SlOk ec K w σ[i]? sl
def RvOk (K : Fg) (w : Wd) (x : V) : Rv → Prop
  | .d d => Rp K w.G x d
  | .new c => ∃ p, x = .ref p ∧ (p ∉ w.r ∧ ¬ w.F p) ∧ COk K w.G w.H p c
  | .ref n => ∃ p, x = .ref p ∧ w.r[n]? = some p
  | .t b es => VtOk K w.G w.r x b es
theorem slOk_mono {ec : EC} {K : Fg} {w w' : Wd} (a : Le w w') {y : Option (Option V)} {sl : Sl} (h : SlOk ec K w y sl) : SlOk ec K w' y sl := by
  cases sl with
  | u => trivial
  | d x =>
    obtain ⟨v, e, r⟩ := h
    exact ⟨v, e, r.mono a.g⟩
  | c n =>
    obtain ⟨p, e, r⟩ := h
    exact ⟨p, e, a.cell r⟩
  | x n =>
    obtain ⟨q, b, e, r, z⟩ := h
    obtain ⟨r', z'⟩ := a.stays r z noTb_x
    exact ⟨q, b, e, r', z'⟩
  | f => exact h
  | t b es =>
    obtain ⟨v, e, z⟩ := h
    exact ⟨v, e, z.mono a.g fun k p q => a.cell q⟩
/-! ### the readings -/
/-- an object just made was not there ahead -/
def FrR (w : Wd) (x : V) (rv : Rv) : Prop := ∀ c, rv = .new c → ∀ p, x = .ref p → w.H p = none
theorem FrR.d {w : Wd} {x : V} {d : D} : FrR w x (.d d) := fun _ e => by cases e
theorem FrR.ref {w : Wd} {x : V} {n : Nat} : FrR w x (.ref n) := fun _ e => by cases e
theorem FrR.t {w : Wd} {x : V} {b : Bool} {es : List El} : FrR w x (.t b es) := fun _ e => by cases e
/-- fresh later is fresh earlier -/
theorem FrR.back {K : Fg} {w w1 w' : Wd} {x : V} {rv : Rv} (a : Le w w1) (b : Le w1 w') (hr : RvOk K w' x rv) (h : FrR w1 x rv) : FrR w x rv := fun c e p ex => by
  have h1 := h c e p ex
  subst e
  obtain ⟨q, eq, ⟨hq, _⟩, _⟩ := hr
  rw [ex] at eq
  cases eq
  cases hh : w.H p with
  | none => rfl
  | some o =>
    obtain ⟨_, this, _⟩ := a.k p o hh fun m => hq (b.mem (a.mem m))
    rw [h1] at this
    cases this
def okV (ec : EC) (K : Fg) (w : Wd) (σ : St) (Q : VK) : Rv → S → Prop := fun rv s' => ∀ x w', Le w w' → Rel ec K w' σ s' → RvOk K w' x rv → FrR w x rv → Q x w'.H
abbrev CE := S → R Rv
abbrev CT := S → R Bool
def rd (K : Fg) (ec : EC) (W : WX) (c : CE) : TE := fun σ H Q => ∃ w s, w.H = H ∧ Rel ec K w σ s ∧ Res (okV ec K w σ Q) (fun e s' => ∀ w', Le w w' → Rel ec K w' σ s' → W (.ref (ec e)) none σ w'.H) (c s)
def rdT (K : Fg) (ec : EC) (W : WX) (c : CT) : TT := fun σ H Q => ∃ w s, w.H = H ∧ Rel ec K w σ s ∧ Res (fun b s' => ∀ w', Le w w' → Rel ec K w' σ s' → Q b w'.H) (fun e s' => ∀ w', Le w w' → Rel ec K w' σ s' → W (.ref (ec e)) none σ w'.H) (c s)
/-- what is wanted of an exception out of an expression -/
abbrev okE (K : Fg) (ec : EC) (W : WX) (σ : St) (w : Wd) : String → S → Prop := fun e s' => ∀ w', Le w w' → Rel ec K w' σ s' → W (.ref (ec e)) none σ w'.H
/-! ### weakening -/
theorem _root_.L2.PE.imp {X : Cx} {e : Expr} {t t' : TE} (h : PE X e t) (i : ∀ σ H Q, t' σ H Q → t σ H Q) : PE X e t' := ⟨fun pins s σ H Q I q => h.run pins s σ H Q I (i _ _ _ q)⟩
theorem _root_.L2.PT.imp {X : Cx} {e : Expr} {t t' : TT} (h : PT X e t) (i : ∀ σ H Q, t' σ H Q → t σ H Q) : PT X e t' := ⟨fun pins s σ H Q I q => h.run pins s σ H Q I (i _ _ _ q)⟩
theorem _root_.L2.PS.imp {X : Cx} {e : Stmt} {t t' : TS} (h : PS X e t) (i : ∀ D σ H, t' D σ H → t D σ H) : PS X e t' := ⟨fun pins s σ H D I q => h.run pins s σ H D I (i _ _ _ q)⟩
theorem _root_.L2.PSs.imp {X : Cx} {e : List Stmt} {t t' : TS} (h : PSs X e t) (i : ∀ D σ H, t' D σ H → t D σ H) : PSs X e t' := ⟨fun pins s σ H D I q => h.run pins s σ H D I (i _ _ _ q)⟩
/-! ### an object just made becomes data -/
def Cell.D? : Cell → Option D
  | .l ds => some (.list ds)
  | .k kvs => some (.dict (kvs.map fun p => (kD p.1, p.2)))
  | _ => none
theorem rpKv_of {K : Fg} {G : Hp} : ∀ {ws : List (L2.Key × V)} {kvs : List (L2.Key × D)}, KvAll K G ws kvs → RpKv K G ws (kvs.map fun p => (kD p.1, p.2))
  | _, _, .nil => .nil
  | (k, v) :: ws, (k', d) :: kvs, .cons r t => by
    obtain ⟨e, r⟩ := r
    have e : k = k' := e
    subst e
    exact .cons r (rpKv_of t)
theorem cOk_mono {K : Fg} {G G' H H' : Hp} {p : Addr} {c : Cell} (g : Same G G') (hp : c ≠ .gone → G' p = none) (h : ∀ o, c ≠ .gone → H p = some o → H' p = some o) (r : COk K G H p c) : COk K G' H' p c := by
  cases c with
  | l ds =>
    obtain ⟨_, vs, e, q⟩ := r
    exact ⟨hp (by intro z; cases z), vs, h _ (by intro z; cases z) e, q.mono g⟩
  | k kvs =>
    obtain ⟨_, vs, e, q⟩ := r
    exact ⟨hp (by intro z; cases z), vs, h _ (by intro z; cases z) e, Paired.mapP q fun a b z => ⟨z.1, z.2.mono g⟩⟩
  | t kvs =>
    obtain ⟨_, vs, e, q⟩ := r
    exact ⟨hp (by intro z; cases z), vs, h _ (by intro z; cases z) e, Paired.mapP q fun a b z => ⟨z.1, z.2.mono g⟩⟩
  | r ks =>
    obtain ⟨_, vs, e, q⟩ := r
    exact ⟨hp (by intro z; cases z), vs, h _ (by intro z; cases z) e, q⟩
  | i n j ds =>
    obtain ⟨_, vs, e, q⟩ := r
    exact ⟨hp (by intro z; cases z), vs, h _ (by intro z; cases z) e, q.mono g⟩
  | g x =>
    obtain ⟨_, o, e, q⟩ := r
    exact ⟨hp (by intro z; cases z), o, h _ (by intro z; cases z) e, q.mono g⟩
  | gone =>
    obtain ⟨o, e⟩ := r
    exact ⟨o, g _ _ e⟩
/-- the ground takes p in -/
theorem ground_in {ec : EC} {K : Fg} {w : Wd} {σ : St} {s : S} {p : Addr} {o : HO} (r : Rel ec K w σ s) (hp : p ∉ w.r ∧ ¬ w.F p) (hg : w.G p = none) (hh : w.H p = some o) (nb : NoTb o) :
    Rel ec K ⟨upd w.G p o, w.r, w.F, w.H⟩ σ s ∧ Le w ⟨upd w.G p o, w.r, w.F, w.H⟩ := by
  have sg : Same w.G (upd w.G p o) := fun b u e => by
    rw [upd_ne (ne_of_none e hg)]
    exact e
  have le : Le w ⟨upd w.G p o, w.r, w.F, w.H⟩ := ⟨sg, fun _ _ e _ => ⟨_, e, fun _ => rfl⟩, List.prefix_refl _, fun _ h => .inl h, rfl⟩
  refine ⟨⟨⟨fun b u e => ?_, r.mem.len, r.mem.nd, fun n q c h1 h2 => ?_, fun q hq => ?_, r.mem.tab, r.mem.inv.trans (le.ch _), noTG_upd r.mem.gt nb, r.mem.nv⟩, r.len, fun i sl h => slOk_mono le (r.slot i sl h)⟩, le⟩
  · by_cases hb : b = p
    · subst hb
      have e : upd w.G b o b = some u := e
      rw [upd_same] at e
      cases e
      exact hh
    · have e : upd w.G p o b = some u := e
      rw [upd_ne hb] at e
      exact r.mem.ext b u e
  · have hq : q ≠ p := fun z => hp.1 (z ▸ List.mem_of_getElem? h1)
    have c0 := r.mem.cell n q c h1 h2
    refine cOk_mono sg (fun hc => ?_) (fun _ _ e => e) c0
    show upd w.G p o q = none
    rw [upd_ne hq]
    cases c with
    | l ds => exact c0.1
    | k kvs => exact c0.1
    | t kvs => exact c0.1
    | r ks => exact c0.1
    | i n j ds => exact c0.1
    | g x => exact c0.1
    | gone => exact absurd rfl hc
  · obtain ⟨h1, h2⟩ := r.mem.fo q hq
    refine ⟨?_, h2⟩
    show upd w.G p o q = none
    have hne : q ≠ p := by
      intro z
      subst z
      exact hp.2 hq
    rw [upd_ne hne]
    exact h1
def Rv.D? : Rv → Option D
  | .d x => some x
  | .new c => c.D?
  | .ref _ => none
  | .t _ _ => none
theorem freeze {ec : EC} {K : Fg} {w : Wd} {σ : St} {s : S} {x : V} {rv : Rv} {d : D} (r : Rel ec K w σ s) (h : RvOk K w x rv) (e : rv.D? = some d) :
    ∃ G', Rel ec K ⟨G', w.r, w.F, w.H⟩ σ s ∧ Le w ⟨G', w.r, w.F, w.H⟩ ∧ Rp K G' x d := by
  cases rv with
  | d y =>
    cases e
    exact ⟨w.G, r, Le.refl w, h⟩
  | ref n => cases e
  | t b es => cases e
  | new c =>
    obtain ⟨p, rfl, hp, hc⟩ := h
    cases c with
    | l ds =>
      cases e
      obtain ⟨hg, vs, hv, ra⟩ := hc
      obtain ⟨r', le⟩ := ground_in r hp hg hv noTb_l
      exact ⟨_, r', le, .lst (SqL.of upd_same) (ra.mono le.g)⟩
    | k kvs =>
      cases e
      obtain ⟨hg, vs, hv, ra⟩ := hc
      obtain ⟨r', le⟩ := ground_in r hp hg hv noTb_k
      exact ⟨_, r', le, .dct upd_same ((rpKv_of ra).mono le.g)⟩
    | t kvs => cases e
    | r ks => cases e
    | i n j ds => cases e
    | g x => cases e
    | gone => cases e
end Vm
namespace Vm
open PySem L2
/-! ### operands -/
/-- what an operand is when the operation comes: data (a cell's list too), or a cell's dict -/
inductive Od where
  | d (x : D)
  | c (c : Cell)
def Rv.od (m : List Cell) : Rv → Option Od
  | .d x => some (.d x)
  | .new _ => none
  | .t _ _ => none
  | .ref n => match m[n]? with
    | some (.l ds) => some (.d (.list ds))
    | some (.k kvs) => some (.c (.k kvs))
    | some (.t kvs) => some (.c (.t kvs))
    | some (.r ks) => some (.c (.r ks))
    | some (.g x) => some (.c (.g x))
    | _ => none
def OdOk (K : Fg) (w : Wd) (x : V) : Od → Prop
  | .d d => Rp K w.G x d ∨ ∃ p vs ds, x = .ref p ∧ d = .list ds ∧ w.H p = some (.lst vs) ∧ RpAll K w.G vs ds
  | .c c => ∃ p, x = .ref p ∧ COk K w.G w.H p c ∧ p ∈ w.r
/-- an expression's value, an object just made become data -/
def cv (c : CE) : CE := fun s => (c s).bind fun rv s1 => match rv with
  | .new c => match c.D? with
    | some d => .ok (.d d) s1
    | none => .bad
  | rv => .ok rv s1
def opt {α β : Type} (o : Option α) (k : α → R β) : R β := match o with
  | some a => k a
  | none => .bad
def cOp1 (f : Od → Option Rv) (a : CE) : CE := fun s => (cv a s).bind fun x s1 => opt (x.od s1.m) fun o => opt (f o) fun rv => .ok rv s1
def cOp2 (f : Od → Od → Option Rv) (a b : CE) : CE := fun s => (cv a s).bind fun x s1 => (cv b s1).bind fun y s2 => opt (x.od s2.m) fun o => opt (y.od s2.m) fun o' => opt (f o o') fun rv => .ok rv s2
theorem Res.opt {α β : Type} {P : β → S → Prop} {E : String → S → Prop} {o : Option α} {k : α → R β} (h : Res P E (opt o k)) : ∃ a, o = some a ∧ Res P E (k a) := by
  cases o with
  | none => exact h.elim
  | some a => exact ⟨a, rfl, h⟩
section
variable {K : Fg} {ec : EC} {W : WX} {σ : St} {w w1 : Wd} {Q : VK} {s : S}
/-- what is wanted of a run from w on -/
abbrev FinV (K : Fg) (ec : EC) (W : WX) (σ : St) (Q : VK) (w : Wd) (r : R Rv) : Prop := Res (okV ec K w σ Q) (okE K ec W σ w) r
abbrev FinT (K : Fg) (ec : EC) (W : WX) (σ : St) (Q : Bool → Hp → Prop) (w : Wd) (r : R Bool) : Prop := Res (fun b s' => ∀ w', Le w w' → Rel ec K w' σ s' → Q b w'.H) (okE K ec W σ w) r
theorem okE_le (a : Le w w1) {e : String} {s' : S} (h : okE K ec W σ w e s') : okE K ec W σ w1 e s' := fun w' b r => h w' (a.trans b) r
theorem FinV.le {r : R Rv} (a : Le w w1) (h : FinV K ec W σ Q w r) : FinV K ec W σ Q w1 r := Res.mono h (fun rv s' q x w' b r o f => q x w' (a.trans b) r o (f.back a b o)) fun e s' q => okE_le a q
theorem FinT.le {Q : Bool → Hp → Prop} {r : R Bool} (a : Le w w1) (h : FinT K ec W σ Q w r) : FinT K ec W σ Q w1 r := Res.mono h (fun rv s' q w' b => q w' (a.trans b)) fun e s' q => okE_le a q
/-- an argument runs, then the rest -/
theorem run_cv {α : Type} {c : CE} {k : Rv → S → R α} {P : α → S → Prop} (hr : Rel ec K w σ s) (h : Res P (okE K ec W σ w) ((cv c s).bind k))
    (hk : ∀ x w1 s1 a, Le w w1 → Rel ec K w1 σ s1 → RvOk K w1 x a → (∀ c, a ≠ .new c) → Res P (okE K ec W σ w) (k a s1) → Q x w1.H) : rd K ec W c σ w.H Q := by
  refine ⟨w, s, rfl, hr, ?_⟩
  unfold cv at h
  cases e : c s with
  | bad =>
    rw [e] at h
    exact h
  | ex n s' =>
    rw [e] at h
    exact h
  | ok rv s' =>
    rw [e] at h
    intro x w' le r' ok _
    cases rv with
    | d y => exact hk x w' s' (.d y) le r' ok (by intro c z; cases z) h
    | ref n => exact hk x w' s' (.ref n) le r' ok (by intro c z; cases z) h
    | t b es => exact hk x w' s' (.t b es) le r' ok (by intro c z; cases z) h
    | new cc =>
      cases ed : cc.D? with
      | none =>
        simp only [R.bind, ed] at h
        exact h.elim
      | some d =>
        simp only [R.bind, ed] at h
        obtain ⟨G', r2, le2, rp⟩ := freeze r' ok (d := d) ed
        exact hk x ⟨G', w'.r, w'.F, w'.H⟩ s' (.d d) (le.trans le2) r2 rp (by intro c z; cases z) h
theorem RvOk.le {x : V} {a : Rv} (hn : ∀ c, a ≠ .new c) (le : Le w w1) (h : RvOk K w x a) : RvOk K w1 x a := by
  cases a with
  | d y => exact Rp.mono le.g _ _ h
  | ref n =>
    obtain ⟨p, e, q⟩ := h
    exact ⟨p, e, le.cell q⟩
  | t b es => exact h.mono le.g fun k p q => le.cell q
  | new c => exact absurd rfl (hn c)
theorem od_of {x : V} {a : Rv} {o : Od} (hr : Rel ec K w σ s) (h : RvOk K w x a) (e : a.od s.m = some o) : OdOk K w x o := by
  cases a with
  | d y =>
    cases e
    exact .inl h
  | new c => cases e
  | t b es => cases e
  | ref n =>
    obtain ⟨p, rfl, q⟩ := h
    unfold Rv.od at e
    dsimp only at e
    split at e
    · rename_i ds hc
      cases e
      obtain ⟨hg, vs, hv, ra⟩ := hr.mem.cell n p _ q hc
      exact .inr ⟨p, vs, ds, rfl, rfl, hv, ra⟩
    · rename_i kvs hc
      cases e
      exact ⟨p, rfl, hr.mem.cell n p _ q hc, List.mem_of_getElem? q⟩
    · rename_i kvs hc
      cases e
      exact ⟨p, rfl, hr.mem.cell n p _ q hc, List.mem_of_getElem? q⟩
    · rename_i kvs hc
      cases e
      exact ⟨p, rfl, hr.mem.cell n p _ q hc, List.mem_of_getElem? q⟩
    · rename_i x hc
      cases e
      exact ⟨p, rfl, hr.mem.cell n p _ q hc, List.mem_of_getElem? q⟩
    · cases e
/-! ### what an operation leaves -/
/-- the world grew by new objects alone -/
structure Gr (w w' : Wd) : Prop where
  r : w'.r = w.r
  f : w'.F = w.F
  g : Same w.G w'.G
  h : Same w.H w'.H
  e : Same w.G w.H → Same w'.G w'.H
  n : ∀ p o, w.H p = some o → NoTup o → w.G p = none → w'.G p = none
  t : NoTG w.G → NoTG w'.G
theorem Gr.refl (w : Wd) : Gr w w := ⟨rfl, rfl, Same.refl _, Same.refl _, fun h => h, fun _ _ _ _ h => h, fun h => h⟩
theorem Rel.live (r : Rel ec K w σ s) {p : Addr} (h : p ∈ w.r) : ∃ o, w.H p = some o := by
  obtain ⟨n, e⟩ := List.getElem?_of_mem h
  have hn : n < s.m.length := by
    rw [← r.mem.len]
    exact (List.getElem?_eq_some_iff.mp e).1
  have c := r.mem.cell n p _ e (List.getElem?_eq_getElem hn)
  cases q : s.m[n] with
  | l ds =>
    rw [q] at c
    obtain ⟨_, vs, hv, _⟩ := c
    exact ⟨_, hv⟩
  | k ds =>
    rw [q] at c
    obtain ⟨_, vs, hv, _⟩ := c
    exact ⟨_, hv⟩
  | t ds =>
    rw [q] at c
    obtain ⟨_, vs, hv, _⟩ := c
    exact ⟨_, hv⟩
  | r ds =>
    rw [q] at c
    obtain ⟨_, vs, hv, _⟩ := c
    exact ⟨_, hv⟩
  | i n' j' ds =>
    rw [q] at c
    obtain ⟨_, vs, hv, _⟩ := c
    exact ⟨_, hv⟩
  | g x =>
    rw [q] at c
    obtain ⟨_, o, hv, _⟩ := c
    exact ⟨_, hv⟩
  | gone =>
    rw [q] at c
    obtain ⟨o, e⟩ := c
    exact ⟨o, r.mem.ext _ _ e⟩
theorem Rel.liveN (r : Rel ec K w σ s) {n : Nat} {p : Addr} (e : w.r[n]? = some p) (hg : w.G p = none) : ∃ o, w.H p = some o ∧ NoTb o ∧ NoX o := by
  have hn : n < s.m.length := by
    rw [← r.mem.len]
    exact (List.getElem?_eq_some_iff.mp e).1
  have c := r.mem.cell n p _ e (List.getElem?_eq_getElem hn)
  cases q : s.m[n] with
  | l ds =>
    rw [q] at c
    obtain ⟨_, vs, hv, _⟩ := c
    exact ⟨_, hv, noTb_l, noX_of fun f z => by cases z⟩
  | k ds =>
    rw [q] at c
    obtain ⟨_, vs, hv, _⟩ := c
    exact ⟨_, hv, noTb_k, noX_of fun f z => by cases z⟩
  | t ds =>
    rw [q] at c
    obtain ⟨_, vs, hv, _⟩ := c
    exact ⟨_, hv, noTb_t, noX_of fun f z => by cases z⟩
  | r ds =>
    rw [q] at c
    obtain ⟨_, vs, hv, _⟩ := c
    exact ⟨_, hv, noTb_t, noX_of fun f z => by cases z⟩
  | i n' j' ds =>
    rw [q] at c
    obtain ⟨_, vs, hv, _⟩ := c
    exact ⟨_, hv, noTb_l, noX_of fun f z => by cases z⟩
  | g x =>
    rw [q] at c
    obtain ⟨_, o, hv, q1⟩ := c
    exact ⟨_, hv, q1.ntb, q1.noX⟩
  | gone =>
    rw [q] at c
    obtain ⟨o, e⟩ := c
    rw [hg] at e
    cases e
theorem Rel.liveT (r : Rel ec K w σ s) {n : Nat} {p : Addr} (e : w.r[n]? = some p) (hg : w.G p = none) : ∃ o, w.H p = some o ∧ NoTb o ∧ NoTup o := by
  have hn : n < s.m.length := by
    rw [← r.mem.len]
    exact (List.getElem?_eq_some_iff.mp e).1
  have c := r.mem.cell n p _ e (List.getElem?_eq_getElem hn)
  cases q : s.m[n] with
  | gone =>
    rw [q] at c
    obtain ⟨o, e⟩ := c
    rw [hg] at e
    cases e
  | l ds =>
    rw [q] at c
    obtain ⟨_, vs, hv, _⟩ := c
    exact ⟨_, hv, noTb_l, fun f z => by cases z⟩
  | k ds =>
    rw [q] at c
    obtain ⟨_, vs, hv, _⟩ := c
    exact ⟨_, hv, noTb_k, fun f z => by cases z⟩
  | t ds =>
    rw [q] at c
    obtain ⟨_, vs, hv, _⟩ := c
    exact ⟨_, hv, noTb_t, fun f z => by cases z⟩
  | r ds =>
    rw [q] at c
    obtain ⟨_, vs, hv, _⟩ := c
    exact ⟨_, hv, noTb_t, fun f z => by cases z⟩
  | i n' j' ds =>
    rw [q] at c
    obtain ⟨_, vs, hv, _⟩ := c
    exact ⟨_, hv, noTb_l, fun f z => by cases z⟩
  | g x =>
    rw [q] at c
    obtain ⟨_, o, hv, q1⟩ := c
    exact ⟨_, hv, q1.ntb, q1.ntup⟩
theorem nv_grow {m : List Cell} (a : Gr w w1) (h : NV ec w m) : NV ec w1 m := by
  refine ⟨fun t q n j ds e1 e2 => ?_, fun p hp => ?_⟩
  · rw [a.r] at e1
    obtain ⟨h1, h2⟩ := h.1 t q n j ds e1 e2
    refine ⟨h1, fun p ks e3 e4 => ?_⟩
    rw [a.r] at e3
    obtain ⟨ws, k, e5, e6⟩ := h2 p ks e3 e4
    exact ⟨ws, k, a.h _ _ e5, e6⟩
  · rw [a.f] at hp
    rcases h.2 p hp with z | ⟨o, e, z⟩
    · exact .inl z
    · exact .inr ⟨o, a.h _ _ e, z⟩
theorem Gr.le (a : Gr w w1) : Le w w1 := ⟨a.g, fun _ _ e _ => ⟨_, a.h _ _ e, fun _ => rfl⟩, by rw [a.r]; exact List.prefix_refl _, fun _ h => .inl (a.r ▸ h), a.f⟩
theorem Rel.grow (r : Rel ec K w σ s) (a : Gr w w1) : Rel ec K w1 σ s := by
  refine ⟨⟨a.e r.mem.ext, by rw [a.r]; exact r.mem.len, by rw [a.r]; exact r.mem.nd, fun n p c h1 h2 => ?_, fun p hp => ?_, by rw [a.f]; exact r.mem.tab.ext a.h, r.mem.inv.trans (a.le.ch _), a.t r.mem.gt, nv_grow a r.mem.nv⟩, r.len, fun i sl h => slOk_mono a.le (r.slot i sl h)⟩
  rotate_left
  · rw [a.f] at hp
    obtain ⟨h1, h2, o, ho⟩ := r.mem.fo p hp
    have nt : NoTup o := by
      rcases r.mem.nv.2 p hp with z | ⟨o', e, _, z⟩
      · obtain ⟨q, hq, e⟩ := List.mem_map.mp z
        obtain ⟨ps, e1, _⟩ := (r.mem.tab q hq).2
        rw [e, ho] at e1
        intro vs z
        rw [z] at e1
        cases e1
      · rw [ho] at e
        cases e
        exact z
    exact ⟨a.n p o ho nt h1, by rw [a.r]; exact h2, o, a.h _ _ ho⟩
  rw [a.r] at h1
  have c0 := r.mem.cell n p c h1 h2
  refine cOk_mono a.g (fun hc => ?_) (fun o _ e => a.h _ _ e) c0
  have hg : w.G p = none := by
    cases c with
    | l ds => exact c0.1
    | k kvs => exact c0.1
    | t kvs => exact c0.1
    | r ks => exact c0.1
    | i n j ds => exact c0.1
    | g x => exact c0.1
    | gone => exact absurd rfl hc
  obtain ⟨o, ho, _, nt⟩ := r.liveT h1 hg
  exact a.n p o ho nt hg
def RvN (K : Fg) (w w' : Wd) (z : V) : Rv → Prop
  | .d d => Rp K w'.G z d
  | .new c => ∃ p, z = .ref p ∧ w.H p = none ∧ COk K w'.G w'.H p c
  | .ref _ => False
  | .t _ _ => False
def Post (K : Fg) (w : Wd) (rv : Rv) (Q : VK) : Prop := ∀ z w', Gr w w' → RvN K w w' z rv → Q z w'.H
theorem post_of {rv : Rv} (hr : Rel ec K w σ s) (h : okV ec K w σ Q rv s) : Post K w rv Q := fun z w' g n => by
  refine h z w' g.le (hr.grow g) ?_ fun c ec p ez => ?_
  rotate_left
  · subst ec
    obtain ⟨p', e, hp, hc⟩ := n
    rw [ez] at e
    cases e
    exact hp
  cases rv with
  | d d => exact n
  | ref _ => exact n.elim
  | t _ _ => exact n.elim
  | new c =>
    obtain ⟨p, e, hp, hc⟩ := n
    refine ⟨p, e, ⟨fun hm => ?_, fun hm => ?_⟩, hc⟩
    · rw [g.r] at hm
      obtain ⟨o, ho⟩ := hr.live hm
      rw [hp] at ho
      cases ho
    · rw [g.f] at hm
      obtain ⟨_, _, o, ho⟩ := hr.mem.fo p hm
      rw [hp] at ho
      cases ho
theorem post_d {d : D} {z : V} (h : Post K w (.d d) Q) (r : Rp K w.G z d) : Q z w.H := h z w (Gr.refl w) r
theorem post_int {i : Int} (h : Post K w (.d (.int i)) Q) : Q (.int i) w.H := post_d h (.int i)
theorem post_bool {i : Bool} (h : Post K w (.d (.bool i)) Q) : Q (.bl i) w.H := post_d h (.bl i)
theorem post_str {i : Str} (h : Post K w (.d (.str i)) Q) : Q (.str i) w.H := post_d h (.str i)
theorem same_upd {H : Hp} {p : Addr} {o : HO} (h : H p = none) : Same H (upd H p o) := fun b x e => by
  rw [upd_ne (ne_of_none e h)]
  exact e
theorem same_upd2 {G H : Hp} {p : Addr} {o : HO} (h : Same G H) : Same (upd G p o) (upd H p o) := fun b x e => by
  by_cases hb : b = p
  · subst hb
    rw [upd_same] at e ⊢
    exact e
  · rw [upd_ne hb] at e ⊢
    exact h b x e
theorem post_tup {ds : List D} {vs : List V} {p : Addr} (h : Post K w (.d (.tuple ds)) Q) (r : RpAll K w.G vs ds) (hp : w.H p = none) (hx : Same w.G w.H) : Q (.ref p) (upd w.H p (.tup vs)) := by
  have hg : w.G p = none := hx.free hp
  exact h (.ref p) ⟨upd w.G p (.tup vs), w.r, w.F, upd w.H p (.tup vs)⟩ ⟨rfl, rfl, same_upd hg, same_upd hp, fun e => same_upd2 e, fun q o e _ n => by
    show upd w.G p (.tup vs) q = none
    rw [upd_ne (ne_of_none e hp)]
    exact n, fun h => noTG_upd h noTb_tup⟩ (.tup upd_same (r.mono (same_upd hg)))
theorem gr_new {p : Addr} {o : HO} (hp : w.H p = none) : Gr w ⟨w.G, w.r, w.F, upd w.H p o⟩ := ⟨rfl, rfl, Same.refl _, same_upd hp, fun e => e.trans (same_upd hp), fun _ _ _ _ n => n, fun h => h⟩
theorem post_lst {ds : List D} {vs : List V} {p : Addr} (h : Post K w (.new (.l ds)) Q) (r : RpAll K w.G vs ds) (hp : w.H p = none) (hx : Same w.G w.H) : Q (.ref p) (upd w.H p (.lst vs)) :=
  h (.ref p) ⟨w.G, w.r, w.F, upd w.H p (.lst vs)⟩ (gr_new hp) ⟨p, rfl, hp, hx.free hp, vs, upd_same, r⟩
/-- an operation on values does what the function on data says -/
def Op1S (K : Fg) (r : V → Hp → VK → Prop) (f : Od → Option Rv) : Prop := ∀ (w : Wd) (x : V) (o : Od) (rv : Rv) (Q : VK), Same w.G w.H → OdOk K w x o → f o = some rv → Post K w rv Q → r x w.H Q
def Op2S (K : Fg) (r : R2) (f : Od → Od → Option Rv) : Prop := ∀ (w : Wd) (x y : V) (o o' : Od) (rv : Rv) (Q : VK), Same w.G w.H → OdOk K w x o → OdOk K w y o' → f o o' = some rv → Post K w rv Q → r x y w.H Q
theorem op1 {r : V → Hp → VK → Prop} {f : Od → Option Rv} (hs : Op1S K r f) {c : CE} {H : Hp} (h : rd K ec W (cOp1 f c) σ H Q) : rd K ec W c σ H fun x H1 => r x H1 Q := by
  obtain ⟨w, s, rfl, hr, h⟩ := h
  refine run_cv hr h fun x w1 s1 a le1 hr1 ha hn h1 => ?_
  obtain ⟨o, e1, h2⟩ := h1.opt
  obtain ⟨rv, e2, h3⟩ := h2.opt
  exact hs w1 x o rv Q hr1.mem.ext (od_of hr1 ha e1) e2 (post_of hr1 fun z w' le r' o f => h3 z w' (le1.trans le) r' o (f.back le1 le o))
theorem op2 {r : R2} {f : Od → Od → Option Rv} (hs : Op2S K r f) {ca cb : CE} {H : Hp} (h : rd K ec W (cOp2 f ca cb) σ H Q) : rd K ec W ca σ H fun x H1 => rd K ec W cb σ H1 fun y H2 => r x y H2 Q := by
  obtain ⟨w, s, rfl, hr, h⟩ := h
  refine run_cv hr h fun x w1 s1 a le1 hr1 ha hn h1 => ?_
  refine run_cv hr1 (Res.mono h1 (fun _ _ q => q) fun _ _ q => okE_le le1 q) fun y w2 s2 b le2 hr2 hb hn2 h2 => ?_
  obtain ⟨o, e1, h2⟩ := h2.opt
  obtain ⟨o', e2, h2⟩ := h2.opt
  obtain ⟨rv, e3, h3⟩ := h2.opt
  exact hs w2 x y o o' rv Q hr2.mem.ext (od_of hr2 (ha.le hn le2) e1) (od_of hr2 hb e2) e3 (post_of hr2 fun z w' le r' o f => h3 z w' ((le1.trans le2).trans le) r' o (f.back (le1.trans le2) le o))
/-! ### what operands are -/
theorem OdOk.rp {x : V} {d : D} (hx : Same w.G w.H) (h : OdOk K w x (.d d)) : Rp K w.H x d := by
  rcases h with h | ⟨p, vs, ds, rfl, rfl, hv, ra⟩
  · exact h.mono hx
  · exact .lst (SqL.of hv) (ra.mono hx)
theorem OdOk.int {x : V} {i : Int} (h : OdOk K w x (.d (.int i))) : x = .int i := by
  rcases h with h | ⟨p, vs, ds, rfl, e, _⟩
  · cases h
    rfl
  · cases e
theorem OdOk.bool {x : V} {i : Bool} (h : OdOk K w x (.d (.bool i))) : x = .bl i := by
  rcases h with h | ⟨p, vs, ds, rfl, e, _⟩
  · cases h
    rfl
  · cases e
theorem OdOk.str {x : V} {i : Str} (h : OdOk K w x (.d (.str i))) : x = .str i := by
  rcases h with h | ⟨p, vs, ds, rfl, e, _⟩
  · cases h
    rfl
  · cases e
theorem OdOk.none {x : V} (h : OdOk K w x (.d .none)) : x = .non := by
  rcases h with h | ⟨p, vs, ds, rfl, e, _⟩
  · cases h
    rfl
  · cases e
theorem OdOk.tup {x : V} {ds : List D} (h : OdOk K w x (.d (.tuple ds))) : ∃ p vs, x = .ref p ∧ w.G p = some (.tup vs) ∧ RpAll K w.G vs ds := by
  rcases h with h | ⟨p, vs, ds, rfl, e, _⟩
  · cases h with
    | tup a b => exact ⟨_, _, rfl, a, b⟩
  · cases e
theorem OdOk.list {x : V} {ds : List D} (hx : Same w.G w.H) (h : OdOk K w x (.d (.list ds))) : ∃ p vs, x = .ref p ∧ SqL K w.H p vs ∧ RpAll K w.G vs ds := by
  rcases h with h | ⟨p, vs, ds, rfl, e, hv, ra⟩
  · cases h with
    | lst a b => exact ⟨_, _, rfl, hx.seq a, b⟩
  · cases e
    exact ⟨p, vs, rfl, SqL.of hv, ra⟩
theorem OdOk.dict {x : V} {es : List (D × D)} (hx : Same w.G w.H) (h : OdOk K w x (.d (.dict es))) (nt : isTag es = false) : ∃ p ws, x = .ref p ∧ w.H p = some (.dK ws) ∧ RpKv K w.G ws es := by
  rcases h with h | ⟨p, vs, ds, rfl, e, hv, ra⟩
  · cases h with
    | dct a b => exact ⟨_, _, rfl, hx _ _ a, b⟩
    | dctT a b => cases nt
    | dctN a g b => cases nt
    | dctF a b => cases nt
  · cases e
theorem kD_tag {k : L2.Key} : kD k ≠ .list [] := by
  cases k <;> exact fun z => by cases z
theorem OdOk.dictT {x : V} {es : List (D × D)} (h : OdOk K w x (.d (.dict (tagT :: es)))) : ∃ p od ws, x = .ref p ∧ w.G p = some (.frz od (.dT ws)) ∧ RpKt K w.G ws es := by
  rcases h with h | ⟨p, vs, ds, rfl, e, hv, ra⟩
  · generalize hE : tagT :: es = E at h
    cases h with
    | dct a b =>
      cases b with
      | nil => cases hE
      | cons r t =>
        have hE := congrArg (fun l : List (D × D) => l.head?.map (·.1)) hE
        exact absurd (Option.some.inj hE).symm kD_tag
    | dctT a b =>
      cases hE
      exact ⟨_, _, _, rfl, a, b⟩
    | dctN a g b =>
      have hE := congrArg (fun l : List (D × D) => l.head?.map (·.1)) hE
      cases hE
    | dctF a b =>
      have hE := congrArg (fun l : List (D × D) => l.head?.map (·.1)) hE
      cases hE
  · cases e
/-- a tracked tuple joins the ground -/
theorem gr_tup {q : Addr} {vs : List V} {ds : List D} (hx : Same w.G w.H) (hq : w.H q = some (.tup vs)) (ra : RpAll K w.G vs ds) : ∃ w2, Gr w w2 ∧ w2.H = w.H ∧ Rp K w2.G (.ref q) (.tuple ds) := by
  cases e : w.G q with
  | some o =>
    have := hx _ _ e
    rw [hq] at this
    cases this
    exact ⟨w, Gr.refl w, rfl, .tup e ra⟩
  | none =>
    refine ⟨⟨upd w.G q (.tup vs), w.r, w.F, w.H⟩, ⟨rfl, rfl, same_upd e, Same.refl _, fun _ b o e1 => ?_, fun p o e1 nt e2 => ?_, fun h => noTG_upd h noTb_tup⟩, rfl, .tup upd_same (ra.mono (same_upd e))⟩
    · have e1 : upd w.G q (.tup vs) b = some o := e1
      by_cases hb : b = q
      · subst hb
        rw [upd_same] at e1
        cases e1
        exact hq
      · rw [upd_ne hb] at e1
        exact hx _ _ e1
    · show upd w.G q (.tup vs) p = none
      have hp : p ≠ q := fun z => by
        subst z
        rw [hq] at e1
        cases e1
        exact nt vs rfl
      rw [upd_ne hp]
      exact e2
theorem Gr.trans {w w1 w2 : Wd} (a : Gr w w1) (b : Gr w1 w2) : Gr w w2 := ⟨b.r.trans a.r, b.f.trans a.f, a.g.trans b.g, a.h.trans b.h, fun h => b.e (a.e h), fun p o e nt g => b.n p o (a.h _ _ e) nt (a.n p o e nt g), fun h => b.t (a.t h)⟩
theorem rp_kD {K : Fg} {H : Hp} {k : L2.Key} : Rp K H (kV k) (kD k) := by
  cases k with
  | inl i => exact .int i
  | inr x => exact .str x
theorem rpAll_kD {K : Fg} {H : Hp} : ∀ {ks : List L2.Key}, RpAll K H (ks.map kV) (ks.map kD)
  | [] => .nil
  | _ :: _ => .cons rp_kD rpAll_kD
/-- so do many -/
theorem gr_tups : ∀ {bs : List Addr} {ks : List (List L2.Key)} {w : Wd}, Same w.G w.H → Paired (fun b k => w.H b = some (.tup (k.map kV))) bs ks → ∃ w2, Gr w w2 ∧ w2.H = w.H ∧ RpAll K w2.G (bs.map V.ref) (ks.map tupK)
  | _, _, w, _, .nil => ⟨w, Gr.refl w, rfl, .nil⟩
  | b :: bs, k :: ks, w, hx, .cons r t => by
    obtain ⟨w1, g1, e1, r1⟩ := gr_tup (ds := k.map kD) hx r (rpAll_kD (K := K))
    obtain ⟨w2, g2, e2, r2⟩ := gr_tups (w := w1) (g1.e hx) (Paired.mapP t fun _ _ z => by rw [e1]; exact z)
    exact ⟨w2, g1.trans g2, e2.trans e1, .cons (r1.mono g2.g) r2⟩
end
end Vm
namespace Vm
open PySem L2
section
variable {K : Fg} {w : Wd}
/-! ### reading the whole heap: Reads of what stands for data -/
mutual
theorem Rp.reads {X : Cx} {pins : List (Addr × Obj)} {σ : St} {H : Hp} {s : Shared} (I : Inv X pins σ H s) : ∀ (d : PyData) (v : V) (u : Value), d.plain = true → Rp X.K H v d → RelV v u → ∃ as, Reads s.heap u d as
  | .none, _, _, _, h, r => by
    cases h
    cases r
    exact ⟨_, Reads.none⟩
  | .bool b, _, _, _, h, r => by
    cases h
    cases r
    exact ⟨_, Reads.bool b⟩
  | .int i, _, _, _, h, r => by
    cases h
    obtain ⟨t, rfl⟩ := r
    exact ⟨_, Reads.int i t⟩
  | .str x, _, _, _, h, r => by
    cases h
    obtain ⟨t, rfl⟩ := r
    exact ⟨_, Reads.str x t⟩
  | .list ds, _, _, hp, h, r => by
    cases h with
    | lst hs ha =>
      cases r
      obtain ⟨its, rv, ⟨o, n, ho, hc, _, hd⟩, _⟩ := I.list hs
      obtain ⟨as, hr⟩ := RpAll.reads I ds _ its (by simpa [PyData.plain] using hp) ha rv
      exact ⟨_, Reads.list ho hc hd hr⟩
  | .tuple ds, _, _, hp, h, r => by
    cases h with
    | tup hs ha =>
      cases r
      obtain ⟨its, rv, ⟨o, ho, hc, n, hd⟩, _⟩ := I.tuple (SqT.of (K := X.K) hs)
      obtain ⟨as, hr⟩ := RpAll.reads I ds _ its (by simpa [PyData.plain] using hp) ha rv
      exact ⟨_, Reads.tuple ho hc hd hr⟩
  | .dict _, _, _, hp, _, _ => by simp [PyData.plain] at hp
theorem RpAll.reads {X : Cx} {pins : List (Addr × Obj)} {σ : St} {H : Hp} {s : Shared} (I : Inv X pins σ H s) : ∀ (ds : List PyData) (vs : List V) (us : List Value), PyData.plainAll ds = true → RpAll X.K H vs ds → Vals vs us → ∃ as, ReadsAll s.heap us ds as
  | [], _, _, _, h, r => by
    cases h
    cases r
    exact ⟨_, ReadsAll.nil⟩
  | d :: ds, _, _, hp, h, r => by
    have hp' : d.plain = true ∧ PyData.plainAll ds = true := by simpa [PyData.plainAll] using hp
    cases h with
    | cons h1 h2 =>
      cases r with
      | cons r1 r2 =>
        obtain ⟨as, q1⟩ := Rp.reads I d _ _ hp'.1 h1 r1
        obtain ⟨bs, q2⟩ := RpAll.reads I ds _ _ hp'.2 h2 r2
        exact ⟨_, ReadsAll.cons q1 q2⟩
end
end
section
variable {X : Cx} {ec : EC} {W : WX}
/-- the judgement: the expression does what the closure does -/
abbrev Ex (X : Cx) (ec : EC) (W : WX) (e : Expr) (c : CE) : Prop := PE X e (rd X.K ec W c)
abbrev Tx (X : Cx) (ec : EC) (W : WX) (e : Expr) (c : CT) : Prop := PT X e (rdT X.K ec W c)
/-! ### names, constants -/
def cVar (i : Nat) : CE := fun s => match s.v[i]? with
  | some (.d x) => .ok (.d x) s
  | some (.c n) => .ok (.ref n) s
  | some (.t b es) => .ok (.t b es) s
  | _ => .bad
theorem e_var (i : Nat) {x : Str} {pos : Pos} (hN : X.N[i]? = some x := by rfl) (hv : Vis X.env.scope x := by first | exact Or.inl rfl | exact Or.inr (Or.inl rfl) | exact Or.inr (Or.inr rfl)) (hd : (x == ("__debug__" : Str)) = false := by decide)
    (hcd : (x == ("__classdict__" : Str)) = false := by decide) : Ex X ec W (.Name x pos) (cVar i) := (pe_var hN hv hd hcd).imp fun σ H Q h => by
  obtain ⟨w, s, rfl, hr, h⟩ := h
  unfold cVar at h
  split at h
  · rename_i y e
    obtain ⟨v, e2, rp⟩ := hr.slot i _ e
    exact ⟨v, e2, h v w (Le.refl w) hr rp .d⟩
  · rename_i n e
    obtain ⟨p, e2, rp⟩ := hr.slot i _ e
    exact ⟨.ref p, e2, h (.ref p) w (Le.refl w) hr ⟨p, rfl, rp⟩ .ref⟩
  · rename_i b es e
    obtain ⟨v, e2, rp⟩ := hr.slot i _ e
    exact ⟨v, e2, h v w (Le.refl w) hr rp .t⟩
  · exact h.elim
def cC (d : D) : CE := fun s => .ok (.d d) s
theorem e_const {v : V} {d : D} {e : Expr} (he : PE X e (tC v)) (hd : ∀ H, Rp X.K H v d) : Ex X ec W e (cC d) := he.imp fun σ H Q h => by
  obtain ⟨w, s, rfl, hr, h⟩ := h
  exact h v w (Le.refl w) hr (hd _) .d
theorem e_int {i j pos} : Ex X ec W (.Constant (.int i) j pos) (cC (.int i)) := e_const pe_int fun _ => .int i
theorem e_bool {i j pos} : Ex X ec W (.Constant (.bool i) j pos) (cC (.bool i)) := e_const pe_bl fun _ => .bl i
theorem e_str {i j pos} : Ex X ec W (.Constant (.str i) j pos) (cC (.str i)) := e_const pe_str fun _ => .str i
/-- a module's constant -/
theorem e_glob {x : Str} {v : V} {u : Value} {d : D} {pos : Pos} (hm : X.mg x = some u) (r : RelV v u) (hd : ∀ H, Rp X.K H v d) (hg : Gl X x := by rfl) (hb : (x == ("__debug__" : Str)) = false := by decide) : Ex X ec W (.Name x pos) (cC d) := e_const (pe_glob hg hm r hb) hd
/-! ### argument lists that become data -/
abbrev CA := S → R (List D)
def cNil : CA := fun s => .ok [] s
def cCons (c : CE) (ca : CA) : CA := fun s => (cv c s).bind fun a s1 => match a with
  | .d x => (ca s1).bind fun xs s2 => .ok (x :: xs) s2
  | _ => .bad
def rdA (K : Fg) (ec : EC) (W : WX) (c : CA) : TA := fun σ H Q => ∃ w s, w.H = H ∧ Rel ec K w σ s ∧ Res (fun ds s' => ∀ vs w', Le w w' → Rel ec K w' σ s' → RpAll K w'.G vs ds → Q vs w'.H) (okE K ec W σ w) (c s)
theorem _root_.L2.PA.imp {X : Cx} {es : List Expr} {t t' : TA} (h : PA X es t) (i : ∀ σ H Q, t' σ H Q → t σ H Q) : PA X es t' := ⟨fun pos pins s σ H Q I q => h.run pos pins s σ H Q I (i _ _ _ q)⟩
theorem a_nil : PA X [] (rdA X.K ec W cNil) := PA.imp pa_nil fun σ H Q h => by
  obtain ⟨w, s, rfl, hr, h⟩ := h
  exact h [] w (Le.refl w) hr .nil
theorem a_cons {e : Expr} {es : List Expr} {c : CE} {ca : CA} (h1 : Ex X ec W e c) (h2 : PA X es (rdA X.K ec W ca)) (hs : starEach (e :: es) X.env = (false, eval e X.env) :: starEach es X.env := by rfl) : PA X (e :: es) (rdA X.K ec W (cCons c ca)) :=
  PA.imp (pa_cons h1 h2 hs) fun σ H Q h => by
    obtain ⟨w, s, rfl, hr, h⟩ := h
    show rd X.K ec W c σ w.H _
    refine run_cv hr h fun x w1 s1 a le1 hr1 ha hn h1 => ?_
    cases a with
    | ref n => exact h1.elim
    | t _ _ => exact h1.elim
    | new c => exact absurd rfl (hn c)
    | d y =>
      refine ⟨w1, s1, rfl, hr1, ?_⟩
      refine Res.mono h1.bind (fun ds s2 h2 vs w2 le2 hr2 rp => ?_) fun _ _ q => okE_le le1 q
      exact h2 (x :: vs) w2 (le1.trans le2) hr2 (.cons (Rp.mono le2.g _ _ ha) rp)
def cTup (ca : CA) : CE := fun s => (ca s).bind fun ds s1 => .ok (.d (.tuple ds)) s1
def cLst (ca : CA) : CE := fun s => (ca s).bind fun ds s1 => .ok (.new (.l ds)) s1
theorem sz1000 {n : Nat} (h : n ≤ 1000) : n ≤ sizeLine := Nat.le_trans h (by decide)
theorem e_tup {es : List Expr} {ca : CA} {x1} {pos : Pos} (h : PA X es (rdA X.K ec W ca)) (hl : ∀ s ds s', ca s = .ok ds s' → ds.length ≤ 1000) : Ex X ec W (.Tuple es x1 pos) (cTup ca) := (pe_tup h).imp fun σ H Q h => by
  obtain ⟨w, s, rfl, hr, h⟩ := h
  refine ⟨w, s, rfl, hr, ?_⟩
  unfold cTup at h
  cases e : ca s with
  | bad => rw [e] at h; exact h
  | ex n s' => rw [e] at h; exact h
  | ok ds s' =>
    rw [e] at h
    intro vs w' le r' rp
    have hz : vs.length ≤ sizeLine := by
      rw [rp.length]
      exact sz1000 (hl _ _ _ e)
    exact ⟨hz, fun p hp => post_tup (post_of r' fun z w2 le2 r2 o f => h z w2 (le.trans le2) r2 o (f.back le le2 o)) rp hp r'.mem.ext⟩
theorem e_lst {es : List Expr} {ca : CA} {pos : Pos} (h : PA X es (rdA X.K ec W ca)) (hl : ∀ s ds s', ca s = .ok ds s' → ds.length ≤ 1000) : Ex X ec W (.List es pos) (cLst ca) := (pe_lst h).imp fun σ H Q h => by
  obtain ⟨w, s, rfl, hr, h⟩ := h
  refine ⟨w, s, rfl, hr, ?_⟩
  unfold cLst at h
  cases e : ca s with
  | bad => rw [e] at h; exact h
  | ex n s' => rw [e] at h; exact h
  | ok ds s' =>
    rw [e] at h
    intro vs w' le r' rp
    have hz : vs.length ≤ sizeLine := by
      rw [rp.length]
      exact sz1000 (hl _ _ _ e)
    exact ⟨hz, fun p hp => post_lst (post_of r' fun z w2 le2 r2 o f => h z w2 (le.trans le2) r2 o (f.back le le2 o)) rp hp r'.mem.ext⟩
/-- a written list of arguments has its length -/
def CLen (n : Nat) (ca : CA) : Prop := ∀ s ds s', ca s = .ok ds s' → ds.length = n
theorem cl_nil : CLen 0 cNil := fun s ds s' e => by
  cases e
  rfl
theorem cl_cons {n : Nat} {c : CE} {ca : CA} (h : CLen n ca) : CLen (n + 1) (cCons c ca) := fun s ds s' e => by
  unfold cCons at e
  cases e1 : cv c s with
  | bad => rw [e1] at e; cases e
  | ex _ _ => rw [e1] at e; cases e
  | ok a s1 =>
    rw [e1] at e
    cases a with
    | ref _ => cases e
    | t _ _ => cases e
    | new _ => cases e
    | d x =>
      simp only [R.bind] at e
      cases e2 : ca s1 with
      | bad => rw [e2] at e; cases e
      | ex _ _ => rw [e2] at e; cases e
      | ok xs s2 =>
        rw [e2] at e
        cases e
        show xs.length + 1 = n + 1
        rw [h _ _ _ e2]
theorem CLen.le {n : Nat} {ca : CA} (h : CLen n ca) (hn : n ≤ 1000) : ∀ s ds s', ca s = .ok ds s' → ds.length ≤ 1000 := fun s ds s' e => by
  rw [h s ds s' e]
  exact hn
/-! ### tests -/
def truthy : Od → Option Bool
  | .d .none => some false
  | .d (.bool b) => some b
  | .d (.int i) => some (i != 0)
  | .d (.list ds) => some (!ds.isEmpty)
  | .d (.tuple ds) => some (!ds.isEmpty)
  | .c (.k kvs) => some (!kvs.isEmpty)
  | _ => none
def cTru (c : CE) : CT := fun s => (cv c s).bind fun a s1 => opt (a.od s1.m) fun o => opt (truthy o) fun b => .ok b s1
theorem isEmpty_len {α β : Type} {xs : List α} {ys : List β} (h : xs.length = ys.length) : xs.isEmpty = ys.isEmpty := by
  cases xs <;> cases ys <;> simp_all
theorem paired_len {α β : Type} {F : α → β → Prop} {xs : List α} {ys : List β} (h : Paired F xs ys) : xs.length = ys.length := Paired.length h
theorem truthy_ok {K : Fg} {w : Wd} {x : V} {o : Od} {b : Bool} (hx : Same w.G w.H) (h : OdOk K w x o) (e : truthy o = some b) : TruV K x w.H b := by
  unfold truthy at e
  split at e
  · cases e
    rw [h.none]
    exact rfl
  · cases e
    rw [h.bool]
    exact rfl
  · cases e
    rw [h.int]
    exact rfl
  · cases e
    obtain ⟨p, vs, rfl, hs, ra⟩ := h.list hx
    exact .inl ⟨vs, hs, by rw [isEmpty_len ra.length]⟩
  · cases e
    obtain ⟨p, vs, rfl, hs, ra⟩ := h.tup
    exact .inr (.inl ⟨vs, SqT.of (hx _ _ hs), by rw [isEmpty_len ra.length]⟩)
  · cases e
    obtain ⟨p, rfl, ⟨_, ws, hw, ra⟩, _⟩ := h
    exact .inr (.inr ⟨ws, hw, by rw [isEmpty_len (paired_len ra)]⟩)
  · cases e
theorem t_of {e : Expr} {c : CE} (h : Ex X ec W e c) (he : ∀ whole, isTrue e X.env whole = (do let v ← whole; standAt e.pos; holding [v] (PySem.truthy v)) := by intro _; rfl) : Tx X ec W e (cTru c) :=
  (pt_truth h he).imp fun σ H Q h => by
    obtain ⟨w, s, rfl, hr, h⟩ := h
    refine run_cv hr h fun x w1 s1 a le1 hr1 ha hn h1 => ?_
    obtain ⟨o, e1, h2⟩ := h1.opt
    obtain ⟨b, e2, h3⟩ := h2.opt
    exact ⟨b, truthy_ok hr1.mem.ext (od_of hr1 ha e1) e2, h3 w1 le1 hr1⟩
def tAnd' (a b : CT) : CT := fun s => (a s).bind fun x s1 => if x = true then b s1 else .ok false s1
def tOr' (a b : CT) : CT := fun s => (a s).bind fun x s1 => if x = true then .ok true s1 else b s1
def tNot' (a : CT) : CT := fun s => (a s).bind fun x s1 => .ok (!x) s1
abbrev Px (X : Cx) (ec : EC) (W : WX) (e : Expr) (c : CT) : Prop := PW X e (rdT X.K ec W c)
theorem _root_.L2.PW.imp {X : Cx} {e : Expr} {t t' : TT} (h : PW X e t) (i : ∀ σ H Q, t' σ H Q → t σ H Q) : PW X e t' := ⟨fun wh pins s σ H Q I q => h.run wh pins s σ H Q I (i _ _ _ q)⟩
theorem p_and1 {a : Expr} {c : CT} {pos : Pos} (ha : Tx X ec W a c) : Px X ec W (.BoolOp .And [a] pos) c := pw_and1 ha
theorem run_t {K : Fg} {σ : St} {w : Wd} {s : S} {α : Type} {c : CT} {k : Bool → S → R α} {P : α → S → Prop} {Q : Bool → Hp → Prop} (hr : Rel ec K w σ s) (h : Res P (okE K ec W σ w) ((c s).bind k))
    (hk : ∀ b w1 s1, Le w w1 → Rel ec K w1 σ s1 → Res P (okE K ec W σ w) (k b s1) → Q b w1.H) : rdT K ec W c σ w.H Q := by
  refine ⟨w, s, rfl, hr, ?_⟩
  cases e : c s with
  | bad => rw [e] at h; exact h
  | ex n s' => rw [e] at h; exact h
  | ok b s' =>
    rw [e] at h
    exact fun w' le r' => hk b w' s' le r' h
theorem p_and {a b : Expr} {rest : List Expr} {c d : CT} {pos : Pos} (ha : Tx X ec W a c) (hb : Px X ec W (.BoolOp .And (b :: rest) pos) d) : Px X ec W (.BoolOp .And (a :: b :: rest) pos) (tAnd' c d) := PW.imp (pw_and ha hb) fun σ H Q h => by
  obtain ⟨w, s, rfl, hr, h⟩ := h
  refine run_t hr h fun x w1 s1 le1 hr1 h1 => ?_
  cases x with
  | true => exact iteT ⟨w1, s1, rfl, hr1, FinT.le le1 h1⟩
  | false => exact iteF (h1 w1 le1 hr1)
theorem t_bop {e : Expr} {c : CT} (h : Px X ec W e c) : Tx X ec W e c := h.pt
theorem t_not {a : Expr} {c : CT} {pos : Pos} (ha : Tx X ec W a c) : Tx X ec W (.UnaryOp .Not a pos) (tNot' c) := (pt_not ha).imp fun σ H Q h => by
  obtain ⟨w, s, rfl, hr, h⟩ := h
  exact run_t hr h fun x w1 s1 le1 hr1 h1 => h1 w1 le1 hr1
/-! ### as values: and, or, not; a if t else b -/
def cB (c : CE) : CT := fun s => (cv c s).bind fun a s1 => match a with
  | .d (.bool b) => .ok b s1
  | _ => .bad
def cAnd (a b : CE) : CE := fun s => (cB a s).bind fun x s1 => if x = true then b s1 else .ok (.d (.bool false)) s1
def cOr (a b : CE) : CE := fun s => (cB a s).bind fun x s1 => if x = true then .ok (.d (.bool true)) s1 else b s1
def cNot (a : CE) : CE := fun s => (cB a s).bind fun x s1 => .ok (.d (.bool (!x))) s1
def cIf (t : CT) (a b : CE) : CE := fun s => (t s).bind fun x s1 => if x = true then a s1 else b s1
/-! ### operators, calls by values -/
theorem e_bin {op : Operator} {a b : Expr} {ca cb : CE} {r : R2} {f : Od → Od → Option Rv} {pos : Pos} (ho : OpR X (binaryOp op) r) (hs : Op2S X.K r f) (ha : Ex X ec W a ca) (hb : Ex X ec W b cb) : Ex X ec W (.BinOp a op b pos) (cOp2 f ca cb) :=
  (pe_op ho ha hb).imp fun _ _ _ h => op2 hs h
theorem e_cmp {op : CmpOp} {a b : Expr} {ca cb : CE} {r : R2} {f : Od → Od → Option Rv} {pos : Pos} (ho : OpR X (compareOp op) r) (hs : Op2S X.K r f) (ha : Ex X ec W a ca) (hb : Ex X ec W b cb) (hm : behindInMarks op b = false := by first | exact nomark _ | rfl) : Ex X ec W (.Compare a [op] [b] pos) (cOp2 f ca cb) :=
  (pe_cmpR ho ha hb hm).imp fun _ _ _ h => op2 hs h
theorem e_un {op : UnaryOp} {a : Expr} {ca : CE} {r : V → Hp → VK → Prop} {f : Od → Option Rv} {pos : Pos} (ho : UnR X (unaryOp op) r) (hs : Op1S X.K r f) (ha : Ex X ec W a ca) : Ex X ec W (.UnaryOp op a pos) (cOp1 f ca) :=
  (pe_un ho ha).imp fun _ _ _ h => op1 hs h
theorem e_ixR {a b : Expr} {ca cb : CE} {r : R2} {f : Od → Od → Option Rv} {pos : Pos} (hr : IxR X r) (hs : Op2S X.K r f) (ha : Ex X ec W a ca) (hb : Ex X ec W b cb) (hp : PlainIx b := by exact fun _ _ => rfl) : Ex X ec W (.Subscript a b pos) (cOp2 f ca cb) :=
  (pe_ix hr ha hb hp).imp fun _ _ _ h => op2 hs h
theorem e_call1 {id : String} {x : Str} {a : Expr} {ca : CE} {r : List V → Hp → VK → Prop} {f : Od → Option Rv} {p pos : Pos} (hc : CallR X (.builtin id) r) (hs : Op1S X.K (fun v => r [v]) f) (hm : X.mg x = none) (hv : bootBuiltins x = some (.builtin id)) (ha : Ex X ec W a ca)
    (hg : Gl X x := by rfl) (hn : x ≠ "__name__" := by decide) (hd : (x == ("__debug__" : Str)) = false := by decide) (h1 : starEach [a] X.env = (false, eval a X.env) :: starEach [] X.env := by rfl) (h2 : (backTo pos (starEach [] X.env)).any (·.1) = false := by rfl) : Ex X ec W (.Call (.Name x p) [a] [] pos) (cOp1 f ca) :=
  (pe_callB hc hg hm hv (pa_cons ha pa_nil h1) hn hd h1 h2).imp fun _ _ _ h => op1 hs h
theorem e_call2 {id : String} {x : Str} {a b : Expr} {ca cb : CE} {r : List V → Hp → VK → Prop} {f : Od → Od → Option Rv} {p pos : Pos} (hc : CallR X (.builtin id) r) (hs : Op2S X.K (fun v u => r [v, u]) f) (hm : X.mg x = none) (hv : bootBuiltins x = some (.builtin id)) (ha : Ex X ec W a ca) (hb : Ex X ec W b cb)
    (hg : Gl X x := by rfl) (hn : x ≠ "__name__" := by decide) (hd : (x == ("__debug__" : Str)) = false := by decide) (h0 : starEach [b] X.env = (false, eval b X.env) :: starEach [] X.env := by rfl) (h1 : starEach [a, b] X.env = (false, eval a X.env) :: starEach [b] X.env := by rfl) (h2 : (backTo pos (starEach [b] X.env)).any (·.1) = false := by rfl) :
    Ex X ec W (.Call (.Name x p) [a, b] [] pos) (cOp2 f ca cb) :=
  (pe_callB hc hg hm hv (pa_cons ha (pa_cons hb pa_nil h0) h1) hn hd h1 h2).imp fun _ _ _ h => op2 hs h
theorem e_callT1 {T : String} {x : Str} {a : Expr} {ca : CE} {r : List V → Hp → VK → Prop} {f : Od → Option Rv} {p pos : Pos} (hc : CallR X (.type T) r) (hs : Op1S X.K (fun v => r [v]) f) (hm : X.mg x = none) (hv : bootBuiltins x = some (.type T)) (ha : Ex X ec W a ca)
    (hg : Gl X x := by rfl) (hn : x ≠ "__name__" := by decide) (hd : (x == ("__debug__" : Str)) = false := by decide) (h1 : starEach [a] X.env = (false, eval a X.env) :: starEach [] X.env := by rfl) (h2 : (backTo pos (starEach [] X.env)).any (·.1) = false := by rfl) : Ex X ec W (.Call (.Name x p) [a] [] pos) (cOp1 f ca) :=
  (pe_callTy hc hg hm hv (pa_cons ha pa_nil h1) hn hd h1 h2).imp fun _ _ _ h => op1 hs h
end
end Vm
namespace Vm
open PySem L2 PySem.W PyProof.Rows
theorem rp_ints {K : Fg} {H : Hp} : ∀ {ns : List Int} {vs : List V}, RpAll K H vs (ns.map PyData.int) → vs = ns.map V.int
  | [], _, h => by
    cases h
    rfl
  | n :: ns, _, h => by
    cases h with
    | cons h1 h2 =>
      cases h1
      rw [rp_ints h2]
      rfl
theorem rpAll_ints {K : Fg} {H : Hp} : ∀ ns : List Int, RpAll K H (ns.map V.int) (ns.map PyData.int)
  | [] => .nil
  | n :: ns => .cons (.int n) (rpAll_ints ns)
/-- all ints -/
def ints? : List D → Option (List Int)
  | [] => some []
  | .int i :: r => match ints? r with
    | some l => some (i :: l)
    | none => none
  | _ :: _ => none
theorem ints?_eq : ∀ {ds : List D} {ns : List Int}, ints? ds = some ns → ds = ns.map PyData.int
  | [], ns, h => by
    cases h
    rfl
  | .int i :: r, ns, h => by
    unfold ints? at h
    split at h
    · rename_i l e
      cases h
      rw [ints?_eq e]
      rfl
    · cases h
  | .none :: _, _, h => by cases h
  | .bool _ :: _, _, h => by cases h
  | .str _ :: _, _, h => by cases h
  | .list _ :: _, _, h => by cases h
  | .tuple _ :: _, _, h => by cases h
  | .dict _ :: _, _, h => by cases h
theorem ints?_map : ∀ ns : List Int, ints? (ns.map PyData.int) = some ns
  | [] => rfl
  | n :: ns => by
    show (match ints? (ns.map PyData.int) with
      | some l => some (n :: l)
      | none => none) = _
    rw [ints?_map ns]
section
variable {X : Cx}
/-! ### + -/
def rCatV (K : Fg) : R2 := fun x y H Q => ∃ l b xs zs, x = .ref l ∧ y = .ref b ∧ SqL K H l xs ∧ SqL K H b zs ∧ xs.length + zs.length ≤ sizeLine ∧ ∀ p, H p = none → Q (.ref p) (upd H p (.lst (xs ++ zs)))
theorem op_catV : OpR X (binaryOp .Add) (rCatV X.K) := by
  intro pins s σ H x y v u Q I rx ry h
  obtain ⟨l, b, xs, zs, rfl, rfl, hH, hB, hz, q⟩ := h
  cases rx
  cases ry
  obtain ⟨its, r, pl, _⟩ := I.list hH
  obtain ⟨its2, r2, pl2, _⟩ := I.list hB
  obtain ⟨⟨cls, dd, data, sl⟩, n, ho, hc, hdd, hd⟩ := pl
  obtain ⟨⟨cls2, dd2, data2, sl2⟩, n2, ho2, hc2, hdd2, hd2⟩ := pl2
  simp only at hc hd hc2 hd2 hdd hdd2
  subst hc hd hc2 hd2
  have e : its.toArray ++ its2.toArray = (its ++ its2).toArray := by simp
  have hsz : its.length + its2.length ≤ sizeLine := by rw [← r.length, ← r2.length]; exact hz
  refine concat_meets ⟨_, ho, rfl⟩ ⟨_, ho2, rfl⟩ noFill_list_add seq_list_add PySem.F.slot_list_add PySem.F.entry_list_add (PySem.F.args_list_add_2 _ _) (list_addW l b its.toArray its2.toArray n n2 dd dd2 sl sl2 (by simpa using hsz)) ⟨ho, ho2, ?_⟩
  rw [e]
  exact ⟨.ref _, _, I.lnew (t' := s.toks) (r.append r2) (by rw [List.length_append]; omega), rfl, q _ I.fresh⟩
def rStrCat : R2 := fun x y H Q => ∃ i j, x = .str i ∧ y = .str j ∧ i.length + j.length ≤ sizeLine ∧ Q (.str (i ++ j)) H
def rAdd (K : Fg) : R2 := fun x y H Q => (rI0 fun i j => .int (i + j)) x y H Q ∨ rStrCat x y H Q ∨ rCatA K x y H Q ∨ rCatV K x y H Q
theorem or_add : OpR X (binaryOp .Add) (rAdd X.K) := OpR.or op_add (OpR.or op_add_str (OpR.or op_catA op_catV))
def opAdd : Od → Od → Option Rv
  | .d (.int i), .d (.int j) => some (.d (.int (i + j)))
  | .d (.str x), .d (.str y) => if x.length + y.length ≤ 16000000 then some (.d (.str (x ++ y))) else none
  | .d (.tuple xs), .d (.tuple ys) => if xs.length + ys.length ≤ 16000000 then some (.d (.tuple (xs ++ ys))) else none
  | .d (.list xs), .d (.list ys) => if xs.length + ys.length ≤ 16000000 then some (.new (.l (xs ++ ys))) else none
  | _, _ => none
theorem sz16 {n : Nat} (h : n ≤ 16000000) : n ≤ sizeLine := Nat.le_trans h (by decide)
theorem s_add {K : Fg} : Op2S K (rAdd K) opAdd := by
  intro w x y o o' rv Q hx h h' e q
  unfold opAdd at e
  split at e
  · cases e
    exact .inl ⟨_, _, h.int, h'.int, post_int q⟩
  · split at e
    · rename_i hl
      cases e
      exact .inr (.inl ⟨_, _, h.str, h'.str, sz16 hl, post_str q⟩)
    · cases e
  · split at e
    · rename_i xs ys hl
      cases e
      obtain ⟨p, vs, rfl, hs, ra⟩ := h.tup
      obtain ⟨p', vs', rfl, hs', ra'⟩ := h'.tup
      refine .inr (.inr (.inl ⟨p, p', vs, vs', rfl, rfl, SqT.of (hx _ _ hs), SqT.of (hx _ _ hs'), by rw [ra.length, ra'.length]; exact sz16 hl, fun e0 => ?_, fun _ e0 => ?_, fun _ _ a ha => post_tup q (ra.append ra') ha hx⟩))
      · subst e0
        cases ra
        exact post_d q (.tup hs' ra')
      · subst e0
        cases ra'
        rw [List.append_nil] at q
        exact post_d q (.tup hs ra)
    · cases e
  · split at e
    · rename_i xs ys hl
      cases e
      obtain ⟨p, vs, rfl, hs, ra⟩ := h.list hx
      obtain ⟨p', vs', rfl, hs', ra'⟩ := h'.list hx
      exact .inr (.inr (.inr ⟨p, p', vs, vs', rfl, rfl, hs, hs', by rw [ra.length, ra'.length]; exact sz16 hl, fun a ha => post_lst q (ra.append ra') ha hx⟩))
    · cases e
  · cases e
/-! ### - * // % ** on ints -/
def opSub : Od → Od → Option Rv
  | .d (.int i), .d (.int j) => some (.d (.int (i - j)))
  | _, _ => none
theorem s_sub {K : Fg} : Op2S K (rI0 fun i j => .int (i - j)) opSub := by
  intro w x y o o' rv Q hx h h' e q
  unfold opSub at e
  split at e
  · cases e
    exact ⟨_, _, h.int, h'.int, post_int q⟩
  · cases e
def mulOk (i j : Int) : Bool := decide (i.natAbs.log2 + j.natAbs.log2 < 100000000)
theorem mulOk_ok {i j : Int} (h : mulOk i j = true) : IntMulOk i j := by
  have h := of_decide_eq_true h
  have b : ∀ x : Int, Builtin.Int.intBits x ≤ x.natAbs.log2 + 1 := fun x => by
    unfold Builtin.Int.intBits
    split <;> omega
  have h1 := b i
  have h2 := b j
  have e : bitsLine = 134217728 := by decide
  unfold IntMulOk
  intro z
  rw [Bool.and_eq_true] at z
  have z2 := z.2
  unfold Builtin.Int.intTooBig at z2
  have z3 := of_decide_eq_true z2
  rw [e] at z3
  omega
theorem op_mulV : OpR X (binaryOp .Mult) (rI (fun i j => mulOk i j = true) fun i j => .int (i * j)) := opI fun _ _ _ _ _ _ _ hc q => mul_int q (mulOk_ok hc)
def rRepV (K : Fg) : R2 := fun x y H Q => ∃ l k xs, x = .ref l ∧ y = .int k ∧ SqL K H l xs ∧ -(2 ^ 63) ≤ k ∧ k < 2 ^ 63 ∧ xs.length * k.toNat ≤ sizeLine ∧ ∀ p, H p = none → Q (.ref p) (upd H p (.lst (List.replicate k.toNat xs).flatten))
theorem op_fdivV : OpR X (binaryOp .FloorDiv) (rI (fun _ j => j ≠ 0 ∧ j.natAbs.log2 < 9000) fun i j => .int (i.fdiv j)) := opI fun i j _ _ _ _ _ hc q => floordiv_int hc.1 q (.inl (PyProof.noPylong_of_log2 hc.2))
def fdv (i j : Int) : Int := if 0 < j then i / j else i.fdiv j
theorem fdv_eq (i j : Int) : i.fdiv j = fdv i j := by
  unfold fdv
  split
  · exact Int.fdiv_eq_ediv_of_nonneg i (by omega)
  · rfl
def fmd (i j : Int) : Int := if 0 < j then i % j else i.fmod j
theorem fmd_eq (i j : Int) : i.fmod j = fmd i j := by
  unfold fmd
  split
  · exact Int.fmod_eq_emod_of_nonneg i (by omega)
  · rfl
def opDiv : Od → Od → Option Rv
  | .d (.int i), .d (.int j) => if j ≠ 0 ∧ j.natAbs.log2 < 9000 then some (.d (.int (fdv i j))) else none
  | _, _ => none
theorem s_div {K : Fg} : Op2S K (rI (fun _ j => j ≠ 0 ∧ j.natAbs.log2 < 9000) fun i j => .int (i.fdiv j)) opDiv := by
  intro w x y o o' rv Q hx h h' e q
  unfold opDiv at e
  split at e
  · split at e
    · rename_i hm
      cases e
      rw [← fdv_eq] at q
      exact ⟨_, _, h.int, h'.int, hm, post_int q⟩
    · cases e
  · cases e
def opMod : Od → Od → Option Rv
  | .d (.int i), .d (.int j) => if j ≠ 0 then some (.d (.int (fmd i j))) else none
  | _, _ => none
theorem s_mod {K : Fg} : Op2S K (rI (fun _ j => j ≠ 0) fun i j => .int (i.fmod j)) opMod := by
  intro w x y o o' rv Q hx h h' e q
  unfold opMod at e
  split at e
  · split at e
    · rename_i hm
      cases e
      rw [← fmd_eq] at q
      exact ⟨_, _, h.int, h'.int, hm, post_int q⟩
    · cases e
  · cases e
def opPow : Od → Od → Option Rv
  | .d (.int i), .d (.int j) => if 0 ≤ j ∧ j ≤ 1000000 ∧ i.natAbs < 2 ^ 64 then some (.d (.int (i ^ j.toNat))) else none
  | _, _ => none
theorem s_pow {K : Fg} : Op2S K (rI CPow fun i j => .int (i ^ j.toNat)) opPow := by
  intro w x y o o' rv Q hx h h' e q
  unfold opPow at e
  split at e
  · split at e
    · rename_i hm
      cases e
      exact ⟨_, _, h.int, h'.int, hm, post_int q⟩
    · cases e
  · cases e
def opNeg : Od → Option Rv
  | .d (.int i) => some (.d (.int (-i)))
  | _ => none
theorem s_neg {K : Fg} : Op1S K (rU fun i => .int (-i)) opNeg := by
  intro w x o rv Q hx h e q
  unfold opNeg at e
  split at e
  · cases e
    exact ⟨_, h.int, post_int q⟩
  · cases e
/-! ### comparisons -/
/-- data without dicts, not deep -/
def okd (d : D) : Bool := d.plain && decide (d.depth ≤ 60)
theorem okd_iff {d : D} : okd d = true ↔ d.plain = true ∧ d.depth ≤ 60 := by
  unfold okd
  rw [Bool.and_eq_true, decide_eq_true_eq]
def rEqV (K : Fg) (neg : Bool) : R2 := fun x y H Q => ∃ d e, Rp K H x d ∧ Rp K H y e ∧ okd d = true ∧ okd e = true ∧ Q (.bl (if neg then !PyData.eqv d e else PyData.eqv d e)) H
theorem op_eqV (hu : X.A.units + 64 < cLine) : OpR X (compareOp .Eq) (rEqV X.K false) := by
  intro pins s σ H x y v u Q I rx ry h
  obtain ⟨d, e, hd, he, sd, se, q⟩ := h
  obtain ⟨pd, _⟩ := okd_iff.mp sd
  obtain ⟨pe, dl⟩ := okd_iff.mp se
  obtain ⟨as, r1⟩ := Rp.reads I d x v pd hd rx
  obtain ⟨bs, r2⟩ := Rp.reads I e y u pe he ry
  exact SeqAt.eq_plain r1 r2 pd pe (by omega) ⟨.bl _, H, I, rfl, q⟩
theorem op_neV (hu : X.A.units + 64 < cLine) : OpR X (compareOp .NotEq) (rEqV X.K true) := by
  intro pins s σ H x y v u Q I rx ry h
  obtain ⟨d, e, hd, he, sd, se, q⟩ := h
  obtain ⟨pd, _⟩ := okd_iff.mp sd
  obtain ⟨pe, dl⟩ := okd_iff.mp se
  obtain ⟨as, r1⟩ := Rp.reads I d x v pd hd rx
  obtain ⟨bs, r2⟩ := Rp.reads I e y u pe he ry
  exact SeqAt.ne_plain r1 r2 pd pe (by omega) ⟨.bl _, H, I, rfl, q⟩
def eqB : D → D → Option Bool
  | .int i, .int j => some (decide (i = j))
  | x, y => if okd x = true ∧ okd y = true then some (PyData.eqv x y) else none
def opEq : Od → Od → Option Rv
  | .d x, .d y => match eqB x y with
    | some b => some (.d (.bool b))
    | none => none
  | _, _ => none
def opNe : Od → Od → Option Rv
  | .d x, .d y => match eqB x y with
    | some b => some (.d (.bool (!b)))
    | none => none
  | _, _ => none
theorem eqB_ok {x y : D} {b : Bool} (h : eqB x y = some b) : okd x = true ∧ okd y = true ∧ PyData.eqv x y = b := by
  unfold eqB at h
  split at h
  · rename_i i j
    cases h
    refine ⟨rfl, rfl, ?_⟩
    show (i == j) = _
    exact Bool.beq_eq_decide_eq i j
  · split at h
    · rename_i hh
      cases h
      exact ⟨hh.1, hh.2, rfl⟩
    · cases h
theorem s_eq {K : Fg} : Op2S K (rEqV K false) opEq := by
  intro w x y o o' rv Q hx h h' e q
  unfold opEq at e
  split at e
  · split at e
    · rename_i b eb
      cases e
      obtain ⟨h1, h2, h3⟩ := eqB_ok eb
      refine ⟨_, _, h.rp hx, h'.rp hx, h1, h2, ?_⟩
      rw [if_neg (by decide), h3]
      exact post_bool q
    · cases e
  · cases e
theorem s_ne {K : Fg} : Op2S K (rEqV K true) opNe := by
  intro w x y o o' rv Q hx h h' e q
  unfold opNe at e
  split at e
  · split at e
    · rename_i b eb
      cases e
      obtain ⟨h1, h2, h3⟩ := eqB_ok eb
      refine ⟨_, _, h.rp hx, h'.rp hx, h1, h2, ?_⟩
      rw [if_pos rfl, h3]
      exact post_bool q
    · cases e
  · cases e
/-- <, >, <=, >= of data that are alike: f of «the first is less» and «the second is less» -/
def rOrd (K : Fg) (f : Bool → Bool → Bool) : R2 := fun x y H Q => ∃ d e, Rp K H x d ∧ Rp K H y e ∧ okd d = true ∧ okd e = true ∧ alike d e = true ∧ d ≠ .none ∧ Q (.bl (f (dataLt d e) (dataLt e d))) H
theorem op_ltV (hu : X.A.units + 64 < cLine) : OpR X (compareOp .Lt) (rOrd X.K fun a _ => a) := by
  intro pins s σ H x y v u Q I rx ry h
  obtain ⟨d, e, hd, he, sd, se, al, hn, q⟩ := h
  obtain ⟨pd, _⟩ := okd_iff.mp sd
  obtain ⟨pe, dl⟩ := okd_iff.mp se
  obtain ⟨as, r1⟩ := Rp.reads I d x v pd hd rx
  obtain ⟨bs, r2⟩ := Rp.reads I e y u pe he ry
  exact lt_data r1 r2 al hn (by omega) ⟨.bl _, H, I, rfl, q⟩
theorem op_gtV (hu : X.A.units + 64 < cLine) : OpR X (compareOp .Gt) (rOrd X.K fun _ b => b) := by
  intro pins s σ H x y v u Q I rx ry h
  obtain ⟨d, e, hd, he, sd, se, al, hn, q⟩ := h
  obtain ⟨pd, _⟩ := okd_iff.mp sd
  obtain ⟨pe, dl⟩ := okd_iff.mp se
  obtain ⟨as, r1⟩ := Rp.reads I d x v pd hd rx
  obtain ⟨bs, r2⟩ := Rp.reads I e y u pe he ry
  exact gt_data r1 r2 al hn (by omega) ⟨.bl _, H, I, rfl, q⟩
theorem op_geV (hu : X.A.units + 64 < cLine) : OpR X (compareOp .GtE) (rOrd X.K fun a _ => !a) := by
  intro pins s σ H x y v u Q I rx ry h
  obtain ⟨d, e, hd, he, sd, se, al, hn, q⟩ := h
  obtain ⟨pd, _⟩ := okd_iff.mp sd
  obtain ⟨pe, dl⟩ := okd_iff.mp se
  obtain ⟨as, r1⟩ := Rp.reads I d x v pd hd rx
  obtain ⟨bs, r2⟩ := Rp.reads I e y u pe he ry
  exact ge_data r1 r2 al hn (by omega) ⟨.bl _, H, I, rfl, q⟩
def isNone : D → Bool
  | .none => true
  | _ => false
theorem isNone_iff {d : D} : isNone d = false → d ≠ .none := by
  intro h z
  subst z
  cases h
def opOrd (fi : Int → Int → Bool) (f : Bool → Bool → Bool) : Od → Od → Option Rv
  | .d (.int i), .d (.int j) => some (.d (.bool (fi i j)))
  | .d x, .d y => if okd x = true ∧ okd y = true ∧ alike x y = true ∧ isNone x = false then some (.d (.bool (f (dataLt x y) (dataLt y x)))) else none
  | _, _ => none
theorem s_ord {K : Fg} {fi : Int → Int → Bool} {f : Bool → Bool → Bool} : Op2S K (fun x y H Q => rI0 (fun i j => .bl (fi i j)) x y H Q ∨ rOrd K f x y H Q) (opOrd fi f) := by
  intro w x y o o' rv Q hx h h' e q
  unfold opOrd at e
  split at e
  · cases e
    exact .inl ⟨_, _, h.int, h'.int, post_bool q⟩
  · split at e
    · rename_i hh
      cases e
      exact .inr ⟨_, _, h.rp hx, h'.rp hx, hh.1, hh.2.1, hh.2.2.1, isNone_iff hh.2.2.2, post_bool q⟩
    · cases e
  · cases e
abbrev opLt := opOrd (fun i j => decide (i < j)) fun a _ => a
abbrev opLe := opOrd (fun i j => decide (i ≤ j)) fun _ b => !b
abbrev opGt := opOrd (fun i j => decide (j < i)) fun _ b => b
abbrev opGe := opOrd (fun i j => decide (j ≤ i)) fun a _ => !a
def opIs (neg : Bool) : Od → Od → Option Rv
  | .d x, .d .none => some (.d (.bool (if neg then !isNone x else isNone x)))
  | .c _, .d .none => some (.d (.bool neg))
  | .d (.bool a), .d (.bool b) => some (.d (.bool (if neg then !decide (a = b) else decide (a = b))))
  | _, _ => none
/-! ### items -/
theorem atI_map {K : Fg} {G : Hp} {vs : List V} {ds : List D} {i : Int} {d : D} (r : RpAll K G vs ds) (h : atI ds i = some d) : ∃ v, atI vs i = some v ∧ Rp K G v d := by
  unfold atI at h ⊢
  rw [r.length]
  cases e : ixN ds.length i with
  | none => rw [e] at h; cases h
  | some j =>
    rw [e] at h
    exact r.get h
def rIxV (K : Fg) : R2 := fun x y H Q => (rIxL K) x y H Q ∨ (rIxT K) x y H Q ∨ rIxS x y H Q
theorem IxR.or {r r' : R2} (h : IxR X r) (h' : IxR X r') : IxR X (fun x y H Q => r x y H Q ∨ r' x y H Q) := by
  intro value slice pins s σ H x y v u Q I rx ry hh hs
  rcases hh with hh | hh
  · exact h value slice pins s σ H x y v u Q I rx ry hh hs
  · exact h' value slice pins s σ H x y v u Q I rx ry hh hs
theorem ixr_V : IxR X (rIxV X.K) := IxR.or ix_list (IxR.or ix_tup ix_str)
def opIx : Od → Od → Option Rv
  | .d (.list ds), .d (.int i) => match atI ds i with
    | some d => some (.d d)
    | none => none
  | .d (.tuple ds), .d (.int i) => match atI ds i with
    | some d => some (.d d)
    | none => none
  | .d (.str z), .d (.int i) => if z.length ≤ 16000000 then (match atI z.cps.toList i with
    | some c => some (.d (.str ⟨#[c]⟩))
    | none => none) else none
  | _, _ => none
theorem s_ix {K : Fg} : Op2S K (rIxV K) opIx := by
  intro w x y o o' rv Q hx h h' e q
  unfold opIx at e
  split at e
  · split at e
    · rename_i d ed
      cases e
      obtain ⟨p, vs, rfl, hs, ra⟩ := h.list hx
      obtain ⟨v, ev, rp⟩ := atI_map ra ed
      exact .inl ⟨p, vs, _, v, rfl, h'.int, hs, ev, post_d q rp⟩
    · cases e
  · split at e
    · rename_i d ed
      cases e
      obtain ⟨p, vs, rfl, hs, ra⟩ := h.tup
      obtain ⟨v, ev, rp⟩ := atI_map ra ed
      exact .inr (.inl ⟨p, vs, _, v, rfl, h'.int, SqT.of (hx _ _ hs), ev, post_d q rp⟩)
    · cases e
  · split at e
    · rename_i hl
      split at e
      · rename_i c ec
        cases e
        exact .inr (.inr ⟨_, _, c, h.str, h'.int, sz16 hl, ec, post_str q⟩)
      · cases e
    · cases e
  · cases e
/-! ### built-in functions -/
def rLenV (K : Fg) : V → Hp → VK → Prop := fun v H Q => (∃ p ys, v = .ref p ∧ (SqL K H p ys ∨ SqT K H p ys) ∧ Q (.int ys.length) H) ∨ (∃ z, v = .str z ∧ z.length ≤ sizeLine ∧ Q (.int z.length) H) ∨ ∃ a kvs, v = .ref a ∧ H a = some (.dK kvs) ∧ Q (.int kvs.length) H
theorem call_lenV : CallR X (.builtin "len") (fun xs H Q => ∃ v, xs = [v] ∧ rLenV X.K v H Q) := by
  intro pins s σ H xs us Q I r h
  obtain ⟨v, rfl, h⟩ := h
  rcases h with ⟨p, ys, rfl, h1, h2⟩ | ⟨z, rfl, h1, h2⟩ | ⟨a, kvs, rfl, h1, h2⟩
  · exact call_len_seq pins s σ H _ us Q I r ⟨p, ys, rfl, h1, h2⟩
  · exact call_len_str pins s σ H _ us Q I r ⟨z, rfl, h1, h2⟩
  · exact call_lenD pins s σ H _ us Q I r ⟨a, kvs, rfl, h1, h2⟩
def opLen : Od → Option Rv
  | .d (.list ds) => some (.d (.int ds.length))
  | .d (.tuple ds) => some (.d (.int ds.length))
  | .d (.dict es) => if isTag es = true then none else some (.d (.int es.length))
  | .d (.str z) => if z.length ≤ 16000000 then some (.d (.int z.length)) else none
  | .c (.k kvs) => some (.d (.int kvs.length))
  | _ => none
theorem rpKv_len {K : Fg} {G : Hp} : ∀ {ws : List (L2.Key × V)} {es : List (D × D)}, RpKv K G ws es → ws.length = es.length
  | _, _, .nil => rfl
  | _, _, .cons _ t => congrArg (· + 1) (rpKv_len t)
theorem s_len {K : Fg} : Op1S K (fun v H Q => ∃ v', [v] = [v'] ∧ rLenV K v' H Q) opLen := by
  intro w x o rv Q hx h e q
  refine ⟨x, rfl, ?_⟩
  unfold opLen at e
  split at e
  · cases e
    obtain ⟨p, vs, rfl, hs, ra⟩ := h.list hx
    exact .inl ⟨p, vs, rfl, .inl hs, by rw [ra.length]; exact post_int q⟩
  · cases e
    obtain ⟨p, vs, rfl, hs, ra⟩ := h.tup
    exact .inl ⟨p, vs, rfl, .inr (SqT.of (hx _ _ hs)), by rw [ra.length]; exact post_int q⟩
  · split at e
    · cases e
    · rename_i nt
      cases e
      obtain ⟨p, ws, rfl, hs, ra⟩ := h.dict hx (by simpa using nt)
      exact .inr (.inr ⟨p, ws, rfl, hs, by rw [rpKv_len ra]; exact post_int q⟩)
  · split at e
    · rename_i hl
      cases e
      exact .inr (.inl ⟨_, h.str, sz16 hl, post_int q⟩)
    · cases e
  · cases e
    obtain ⟨p, rfl, ⟨_, ws, hw, ra⟩, _⟩ := h
    exact .inr (.inr ⟨p, ws, rfl, hw, by rw [paired_len ra]; exact post_int q⟩)
  · cases e
def opAbs : Od → Option Rv
  | .d (.int i) => some (.d (.int (if i < 0 then -i else i)))
  | _ => none
theorem s_abs {K : Fg} : Op1S K (fun v H Q => ∃ i, [v] = [V.int i] ∧ Q (.int (if i < 0 then -i else i)) H) opAbs := by
  intro w x o rv Q hx h e q
  unfold opAbs at e
  split at e
  · cases e
    exact ⟨_, by rw [h.int], post_int q⟩
  · cases e
/-- isinstance(x, T) of a built-in class -/
def tyN : Od → String
  | .d .none => "NoneType"
  | .d (.bool _) => "bool"
  | .d (.int _) => "int"
  | .d (.str _) => "str"
  | .d (.list _) => "list"
  | .d (.tuple _) => "tuple"
  | .d (.dict _) => "dict"
  | .c _ => "dict"
def isiB (T : String) (t : String) : Bool := t == T || (t == "bool" && T == "int")
def opIsi (T : String) (o : Od) : Option Rv := match o with
  | .c .gone => none
  | .c (.l _) => none
  | .c (.i _ _ _) => none
  | .c (.g _) => none
  | o => some (.d (.bool (isiB T (tyN o))))
/-- sum of ints in a list, a tuple -/
def rSumV (K : Fg) : V → Hp → VK → Prop := fun v H Q => ∃ (a : Addr) (ns : List Int), v = V.ref a ∧ (SqL K H a (ns.map V.int) ∨ SqT K H a (ns.map V.int)) ∧ Q (.int ns.sum) H
theorem call_sumV (hc : X.calm = true) : CallR X (.builtin "sum") (fun xs H Q => ∃ v, xs = [v] ∧ rSumV X.K v H Q) := by
  intro pins s σ H vs us Q I r h
  obtain ⟨v, rfl, a, ns, rfl, hs | hs, q⟩ := h
  · exact cr_sum hc pins s σ H _ us Q I r ⟨a, ns, rfl, hs, q⟩
  · obtain ⟨its, rv, hl, _⟩ := I.tuple hs
    rw [Vals.ref1 r]
    obtain ⟨xs, hx⟩ := rv.ints.allInts.items
    have hl : s.heap.IsTuple a its.toArray := hl
    have hn : numsOf its.toArray.toList = ns := by rw [show its.toArray.toList = its from rfl, rv.ints.numsOf]
    rw [hx] at hl hn
    rw [nums_intItems] at hn
    refine ktm_sumG (I.ok.hd hc) hl fun h' tk t' hk => ?_
    rw [preSum_eq, List.take_of_length_le (by simp), hn]
    exact ⟨.int _, H, I.kept hk, ⟨_, rfl⟩, q⟩
def opSum : Od → Option Rv
  | .d (.list ds) => match ints? ds with
    | some ns => some (.d (.int ns.sum))
    | none => none
  | .d (.tuple ds) => match ints? ds with
    | some ns => some (.d (.int ns.sum))
    | none => none
  | _ => none
theorem s_sum {K : Fg} : Op1S K (fun v H Q => ∃ v', [v] = [v'] ∧ rSumV K v' H Q) opSum := by
  intro w x o rv Q hx h e q
  refine ⟨x, rfl, ?_⟩
  unfold opSum at e
  split at e
  · split at e
    · rename_i bs eb
      cases e
      rw [ints?_eq eb] at h
      obtain ⟨p, vs, rfl, hs, ra⟩ := h.list hx
      rw [rp_ints ra] at hs
      exact ⟨p, bs, rfl, .inl hs, post_int q⟩
    · cases e
  · split at e
    · rename_i bs eb
      cases e
      rw [ints?_eq eb] at h
      obtain ⟨p, vs, rfl, hs, ra⟩ := h.tup
      rw [rp_ints ra] at hs
      exact ⟨p, bs, rfl, .inr (SqT.of (hx _ _ hs)), post_int q⟩
    · cases e
  · cases e
/-- tuple(x), list(x) of a list, a tuple -/
def opTuple : Od → Option Rv
  | .d (.list ds) => some (.d (.tuple ds))
  | .d (.tuple ds) => some (.d (.tuple ds))
  | _ => none
theorem s_tuple {K : Fg} : Op1S K (fun v H Q => ∃ p ys, [v] = [V.ref p] ∧ ((SqL K H p ys ∧ ∀ l, H l = none → Q (.ref l) (upd H l (.tup ys))) ∨ (SqT K H p ys ∧ Q (.ref p) H))) opTuple := by
  intro w x o rv Q hx h e q
  unfold opTuple at e
  split at e
  · cases e
    obtain ⟨p, vs, rfl, hs, ra⟩ := h.list hx
    exact ⟨p, vs, rfl, .inl ⟨hs, fun l hl => post_tup q ra hl hx⟩⟩
  · cases e
    obtain ⟨p, vs, rfl, hs, ra⟩ := h.tup
    exact ⟨p, vs, rfl, .inr ⟨SqT.of (hx _ _ hs), post_d q (.tup hs ra)⟩⟩
  · cases e
def opList : Od → Option Rv
  | .d (.list ds) => some (.new (.l ds))
  | .d (.tuple ds) => some (.new (.l ds))
  | _ => none
theorem s_list {K : Fg} : Op1S K (fun v H Q => ∃ p ys, [v] = [V.ref p] ∧ (SqL K H p ys ∨ SqT K H p ys) ∧ ∀ l, H l = none → Q (.ref l) (upd H l (.lst ys))) opList := by
  intro w x o rv Q hx h e q
  unfold opList at e
  split at e
  · cases e
    obtain ⟨p, vs, rfl, hs, ra⟩ := h.list hx
    exact ⟨p, vs, rfl, .inl hs, fun l hl => post_lst q ra hl hx⟩
  · cases e
    obtain ⟨p, vs, rfl, hs, ra⟩ := h.tup
    exact ⟨p, vs, rfl, .inr (SqT.of (hx _ _ hs)), fun l hl => post_lst q ra hl hx⟩
  · cases e
def opInt : Od → Option Rv
  | .d (.int i) => some (.d (.int i))
  | .d (.bool k) => some (.d (.int (if k then 1 else 0)))
  | _ => none
theorem s_int {K : Fg} : Op1S K (fun v H Q => (∃ i, [v] = [V.int i] ∧ Q (.int i) H) ∨ ∃ k, [v] = [V.bl k] ∧ Q (.int (if k then 1 else 0)) H) opInt := by
  intro w x o rv Q hx h e q
  unfold opInt at e
  split at e
  · cases e
    exact .inl ⟨_, by rw [h.int], post_int q⟩
  · cases e
    exact .inr ⟨_, by rw [h.bool], post_int q⟩
  · cases e
def opMax2 : Od → Od → Option Rv
  | .d (.int i), .d (.int j) => some (.d (.int (if j > i then j else i)))
  | _, _ => none
def opMin2 : Od → Od → Option Rv
  | .d (.int i), .d (.int j) => some (.d (.int (if j < i then j else i)))
  | _, _ => none
theorem s_min2 {K : Fg} : Op2S K (fun v u H Q => ∃ i j, [v, u] = [V.int i, V.int j] ∧ Q (.int (if j < i then j else i)) H) opMin2 := by
  intro w x y o o' rv Q hx h h' e q
  unfold opMin2 at e
  split at e
  · cases e
    exact ⟨_, _, by rw [h.int, h'.int], post_int q⟩
  · cases e
end
end Vm
namespace Vm
open PySem L2
/-! ### statements -/
inductive Out where
  | nx (s : S)
  | rt (a : Rv) (s : S)
  | bk (s : S)
  | ct (s : S)
  | ex (e : String) (s : S)
  | bad
abbrev CS := S → Out
def R.out {α : Type} (r : R α) (k : α → S → Out) : Out := match r with
  | .ok a s => k a s
  | .ex e s => .ex e s
  | .bad => .bad
def okX (K : Fg) (ec : EC) (W : WX) (w : Wd) : String → S → Prop := fun e s' => ∀ σ' w', Le w w' → Rel ec K w' σ' s' → W (.ref (ec e)) none σ' w'.H
def OOk (K : Fg) (ec : EC) (W : WX) (D : Ends) (w : Wd) : Out → Prop
  | .nx s' => ∀ σ' w', Le w w' → Rel ec K w' σ' s' → D.nx σ' w'.H
  | .rt a s' => ∀ x σ' w', Le w w' → Rel ec K w' σ' s' → RvOk K w' x a → FrR w x a → D.rt x w'.H
  | .bk s' => ∀ σ' w', Le w w' → Rel ec K w' σ' s' → D.bk σ' w'.H
  | .ct s' => ∀ σ' w', Le w w' → Rel ec K w' σ' s' → D.ct σ' w'.H
  | .ex e s' => okX K ec W w e s'
  | .bad => False
def rdS (K : Fg) (ec : EC) (W : WX) (c : CS) : TS := fun D σ H => ∃ w s, w.H = H ∧ Rel ec K w σ s ∧ OOk K ec W D w (c s)
abbrev Sx (X : Cx) (ec : EC) (W : WX) (st : Stmt) (c : CS) : Prop := PS X st (rdS X.K ec W c)
abbrev Bx (X : Cx) (ec : EC) (W : WX) (st : List Stmt) (c : CS) : Prop := PSs X st (rdS X.K ec W c)
section
variable {K : Fg} {ec : EC} {W : WX} {σ : St} {w w1 : Wd} {s : S} {D : Ends}
theorem okX_le {e : String} {s' : S} (a : Le w w1) (h : okX K ec W w e s') : okX K ec W w1 e s' := fun σ' w' b r => h σ' w' (a.trans b) r
theorem okX_E {e : String} {s' : S} (h : okX K ec W w e s') : okE K ec W σ w e s' := fun w' b r => h σ w' b r
theorem OOk.le {o : Out} (a : Le w w1) (h : OOk K ec W D w o) : OOk K ec W D w1 o := by
  cases o with
  | nx s' => exact fun σ' w' b r => h σ' w' (a.trans b) r
  | rt x s' => exact fun y σ' w' b r o f => h y σ' w' (a.trans b) r o (f.back a b o)
  | bk s' => exact fun σ' w' b r => h σ' w' (a.trans b) r
  | ct s' => exact fun σ' w' b r => h σ' w' (a.trans b) r
  | ex e s' => exact okX_le a h
  | bad => exact h
/-- an expression's run within a statement -/
theorem run_e {c : CE} {k : Rv → S → Out} (hr : Rel ec K w σ s) (h : OOk K ec W D w ((c s).out k)) {Q : VK} (hk : ∀ x w1 s1 a, Le w w1 → Rel ec K w1 σ s1 → RvOk K w1 x a → FrR w x a → OOk K ec W D w (k a s1) → Q x w1.H) : rd K ec W c σ w.H Q := by
  refine ⟨w, s, rfl, hr, ?_⟩
  cases e : c s with
  | bad => rw [e] at h; exact h
  | ex n s' => rw [e] at h; exact okX_E h
  | ok a s' =>
    rw [e] at h
    exact fun x w' le r o f => hk x w' s' a le r o f h
/-- .. of a value that became data, or is a cell -/
theorem run_ev {c : CE} {k : Rv → S → Out} (hr : Rel ec K w σ s) (h : OOk K ec W D w ((cv c s).out k)) {Q : VK} (hk : ∀ x w1 s1 a, Le w w1 → Rel ec K w1 σ s1 → RvOk K w1 x a → (∀ c, a ≠ .new c) → OOk K ec W D w (k a s1) → Q x w1.H) : rd K ec W c σ w.H Q := by
  refine ⟨w, s, rfl, hr, ?_⟩
  unfold cv at h
  cases e : c s with
  | bad => rw [e] at h; exact h
  | ex n s' => rw [e] at h; exact okX_E h
  | ok rv s' =>
    rw [e] at h
    intro x w' le r' ok _
    cases rv with
    | d y => exact hk x w' s' (.d y) le r' ok (by intro c z; cases z) h
    | ref n => exact hk x w' s' (.ref n) le r' ok (by intro c z; cases z) h
    | t b es => exact hk x w' s' (.t b es) le r' ok (by intro c z; cases z) h
    | new cc =>
      cases ed : cc.D? with
      | none =>
        simp only [R.bind, R.out, ed] at h
        exact h.elim
      | some d =>
        simp only [R.bind, R.out, ed] at h
        obtain ⟨G', r2, le2, rp⟩ := freeze r' ok (d := d) ed
        exact hk x ⟨G', w'.r, w'.F, w'.H⟩ s' (.d d) (le.trans le2) r2 rp (by intro c z; cases z) h
theorem run_tS {c : CT} {k : Bool → S → Out} (hr : Rel ec K w σ s) (h : OOk K ec W D w ((c s).out k)) {Q : Bool → Hp → Prop} (hk : ∀ b w1 s1, Le w w1 → Rel ec K w1 σ s1 → OOk K ec W D w (k b s1) → Q b w1.H) : rdT K ec W c σ w.H Q := by
  refine ⟨w, s, rfl, hr, ?_⟩
  cases e : c s with
  | bad => rw [e] at h; exact h
  | ex n s' => rw [e] at h; exact okX_E h
  | ok a s' =>
    rw [e] at h
    exact fun w' le r => hk a w' s' le r h
end
section
variable {X : Cx} {ec : EC} {W : WX}
def cNx : CS := fun s => .nx s
theorem b_nil : Bx X ec W [] cNx := pss_nil.imp fun D σ H h => by
  obtain ⟨w, s, rfl, hr, h⟩ := h
  exact h σ w (Le.refl w) hr
def cBk : CS := fun s => .bk s
def cCt : CS := fun s => .ct s
def cSeq (a b : CS) : CS := fun s => match a s with
  | .nx s1 => b s1
  | o => o
theorem b_cons {st : Stmt} {r : List Stmt} {a b : CS} (ha : Sx X ec W st a) (hb : Bx X ec W r b) : Bx X ec W (st :: r) (cSeq a b) := (pss_cons ha hb).imp fun D σ H h => by
  obtain ⟨w, s, rfl, hr, h⟩ := h
  refine ⟨w, s, rfl, hr, ?_⟩
  unfold cSeq at h
  cases e : a s with
  | nx s1 =>
    rw [e] at h
    exact fun σ' w' le r' => ⟨w', s1, rfl, r', h.le le⟩
  | rt x s1 => rw [e] at h; exact h
  | bk s1 => rw [e] at h; exact h
  | ct s1 => rw [e] at h; exact h
  | ex n s1 => rw [e] at h; exact h
  | bad => rw [e] at h; exact h
theorem b_one {st : Stmt} {a : CS} (ha : Sx X ec W st a) : Bx X ec W [st] a := pss_one ha
def cExp (c : CE) : CS := fun s => (c s).out fun _ s1 => .nx s1
theorem s_expr {e : Expr} {c : CE} {pos : Pos} (h : Ex X ec W e c) (hs : swapsWith e none pos.line X.env = pure false := by rfl) : Sx X ec W (.Expr e pos) (cExp c) := (ps_expr h hs).imp fun D σ H h => by
  obtain ⟨w, s, rfl, hr, h⟩ := h
  exact run_e hr h fun x w1 s1 a le r o f h1 => h1 σ w1 le r
def cRet (c : CE) : CS := fun s => (c s).out fun a s1 => .rt a s1
theorem s_ret {e : Expr} {c : CE} {pos : Pos} (h : Ex X ec W e c) : Sx X ec W (.Return (some e) pos) (cRet c) := (ps_ret h).imp fun D σ H h => by
  obtain ⟨w, s, rfl, hr, h⟩ := h
  exact run_e hr h fun x w1 s1 a le r o f h1 => h1 x σ w1 le r o f
def cRetN : CS := fun s => .rt (.d .none) s
def cIfS (t : CT) (a b : CS) : CS := fun s => (t s).out fun x s1 => if x = true then a s1 else b s1
theorem s_if {t : Expr} {a b : List Stmt} {ct : CT} {ca cb : CS} {pos : Pos} (ht : Tx X ec W t ct) (ha : Bx X ec W a ca) (hb : Bx X ec W b cb) : Sx X ec W (.If t a b pos) (cIfS ct ca cb) := (ps_if ht ha hb).imp fun D σ H h => by
  obtain ⟨w, s, rfl, hr, h⟩ := h
  refine run_tS hr h fun x w1 s1 le r h1 => ?_
  cases x with
  | true => exact iteT ⟨w1, s1, rfl, r, h1.le le⟩
  | false => exact iteF ⟨w1, s1, rfl, r, h1.le le⟩
/-! ### storing names -/
theorem Rel.set {K : Fg} {w : Wd} {σ : St} {s : S} (r : Rel ec K w σ s) (i : Nat) {x : V} {sl : Sl} (h : SlOk ec K w (some (some x)) sl) : Rel ec K w (σ.set i (some x)) ⟨s.v.set i sl, s.m⟩ := by
  refine ⟨r.mem, by show (σ.set i (some x)).length = (s.v.set i sl).length; rw [List.length_set, List.length_set, r.len], fun j y e => ?_⟩
  have e : (s.v.set i sl)[j]? = some y := e
  by_cases hj : i = j
  · subst hj
    by_cases hl : i < s.v.length
    · rw [List.getElem?_set_self hl] at e
      cases e
      rw [List.getElem?_set_self (by rw [r.len]; exact hl)]
      exact h
    · rw [List.getElem?_eq_none (by rw [List.length_set]; omega)] at e
      cases e
  · rw [List.getElem?_set_ne hj] at e
    rw [List.getElem?_set_ne hj]
    exact r.slot j y e
def slOf : Rv → Option Sl
  | .d x => some (.d x)
  | .ref n => some (.c n)
  | .t b es => some (.t b es)
  | .new _ => none
theorem slOf_ok {K : Fg} {w : Wd} {x : V} {a : Rv} {sl : Sl} (h : RvOk K w x a) (e : slOf a = some sl) : SlOk ec K w (some (some x)) sl := by
  cases a with
  | d y =>
    cases e
    exact ⟨x, rfl, h⟩
  | ref n =>
    cases e
    obtain ⟨p, rfl, q⟩ := h
    exact ⟨p, rfl, q⟩
  | t b es =>
    cases e
    exact ⟨x, rfl, h⟩
  | new c => cases e
/-- name = e: data, or another name of a cell -/
def cSet (i : Nat) (c : CE) : CS := fun s => (cv c s).out fun a s1 => match slOf a with
  | some sl => .nx ⟨s1.v.set i sl, s1.m⟩
  | none => .bad
theorem rd_set {K : Fg} {σ : St} {H : Hp} {D : Ends} {i : Nat} {c : CE} (h : rdS K ec W (cSet i c) D σ H) : tAsg (rd K ec W c) (gName i) D σ H := by
  obtain ⟨w, s, rfl, hr, h⟩ := h
  refine run_ev hr h fun x w1 s1 a le r o hn h1 => ?_
  cases e : slOf a with
  | none => simp only [e] at h1; exact h1.elim
  | some sl =>
    simp only [e] at h1
    exact h1 _ w1 le (r.set i (slOf_ok o e))
theorem s_set (i : Nat) {x : Str} {e : Expr} {c : CE} {pos' pos : Pos} (hN : X.N.Nodup) (h : Ex X ec W e c) (hi : X.N[i]? = some x := by rfl) (hx : Loc X.env.scope x := by first | exact Or.inl rfl | exact Or.inr rfl) (hs : swapsWith e (some (.Name x pos')) pos.line X.env = pure false := by rfl) (hf : X.fn x = true ∨ X.env.scope.names.lookup x = some .local := by first | exact .inl rfl | exact .inr rfl) :
    Sx X ec W (.Assign [.Name x pos'] e pos) (cSet i c) := (ps_set hN hi hx h hs hf).imp fun D σ H h => rd_set h
/-- name = e, a new mutable object -/
def cSetM (i : Nat) (c : CE) : CS := fun s => (c s).out fun a s1 => match a with
  | .new .gone => .bad
  | .new (.i _ _ _) => .bad
  | .new cell => .nx ⟨s1.v.set i (.c s1.m.length), s1.m ++ [cell]⟩
  | .ref n => .nx ⟨s1.v.set i (.c n), s1.m⟩
  | .t b es => .nx ⟨s1.v.set i (.t b es), s1.m⟩
  | .d _ => .bad
theorem nv_in {w : Wd} {m : List Cell} {p : Addr} {c : Cell} (hl : w.r.length = m.length) (hc : ∀ n j ds, c ≠ .i n j ds) (h : NV ec w m) : NV ec ⟨w.G, w.r ++ [p], w.F, w.H⟩ (m ++ [c]) := by
  refine ⟨fun t q n j ds e1 e2 => ?_, h.2⟩
  have e1 : (w.r ++ [p])[t]? = some q := e1
  by_cases ht : t < m.length
  · rw [List.getElem?_append_left ht] at e2
    rw [List.getElem?_append_left (by omega)] at e1
    obtain ⟨h1, h2⟩ := h.1 t q n j ds e1 e2
    refine ⟨h1, fun p' ks e3 e4 => ?_⟩
    have e3 : (w.r ++ [p])[n]? = some p' := e3
    rw [List.getElem?_append_left (by omega)] at e3
    rw [List.getElem?_append_left (by omega)] at e4
    exact h2 p' ks e3 e4
  · rw [List.getElem?_append_right (by omega)] at e2
    cases hk : t - m.length with
    | zero =>
      rw [hk] at e2
      exact absurd (Option.some.inj e2) (hc n j ds)
    | succ k =>
      rw [hk] at e2
      cases e2
theorem nv_out {w : Wd} {m : List Cell} {n : Nat} {G : Hp} (h : NV ec w m) : NV ec ⟨G, w.r, w.F, w.H⟩ (m.set n .gone) := by
  refine ⟨fun t q n0 j ds e1 e2 => ?_, h.2⟩
  have ne : n ≠ t := fun z => by
    subst z
    rw [List.getElem?_set] at e2
    split at e2
    · split at e2 <;> cases e2
    · exact absurd rfl ‹_›
  rw [List.getElem?_set_ne ne] at e2
  obtain ⟨h1, h2⟩ := h.1 t q n0 j ds e1 e2
  refine ⟨h1, fun p ks e3 e4 => ?_⟩
  have ne2 : n ≠ n0 := fun z => by
    subst z
    rw [List.getElem?_set] at e4
    split at e4
    · split at e4 <;> cases e4
    · exact absurd rfl ‹_›
  rw [List.getElem?_set_ne ne2] at e4
  exact h2 p ks e3 e4
theorem cell_in {K : Fg} {w w1 : Wd} {σ : St} {s : S} {p : Addr} {c : Cell} (hg : c ≠ .gone) (hni : ∀ n j ds, c ≠ .i n j ds) (i0 : Le ec.w (w.f ec.w.F)) (le : Le w w1) (r : Rel ec K w1 σ s) (hp : p ∉ w1.r ∧ ¬ w1.F p) (hf : w.H p = none) (hc : COk K w1.G w1.H p c) :
    Rel ec K ⟨w1.G, w1.r ++ [p], w1.F, w1.H⟩ σ ⟨s.v, s.m ++ [c]⟩ ∧ Le w ⟨w1.G, w1.r ++ [p], w1.F, w1.H⟩ := by
  have l2 : Le w ⟨w1.G, w1.r ++ [p], w1.F, w1.H⟩ := ⟨le.g, le.k, le.p.trans (List.prefix_append _ _), fun q hq => by
    have hq : q ∈ w1.r ++ [p] := hq
    rcases List.mem_append.mp hq with m | m
    · exact le.f q m
    · rw [List.mem_singleton.mp m]
      exact .inr hf, le.s⟩
  refine ⟨⟨⟨r.mem.ext, ?_, ?_, fun n q c' h1 h2 => ?_, fun q hq => ?_, r.mem.tab, i0.trans (l2.ch _), r.mem.gt, nv_in r.mem.len hni r.mem.nv⟩, r.len, fun i sl e => ?_⟩, l2⟩
  · show (w1.r ++ [p]).length = (s.m ++ [c]).length
    rw [List.length_append, List.length_append, r.mem.len]
    rfl
  · show (w1.r ++ [p]).Nodup
    refine List.nodup_append.mpr ⟨r.mem.nd, by simp, fun a ha b hb e => ?_⟩
    rw [List.mem_singleton.mp hb] at e
    exact hp.1 (e ▸ ha)
  · have h1 : (w1.r ++ [p])[n]? = some q := h1
    have h2 : (s.m ++ [c])[n]? = some c' := h2
    by_cases hn : n < w1.r.length
    · rw [List.getElem?_append_left hn] at h1
      rw [List.getElem?_append_left (by rw [← r.mem.len]; exact hn)] at h2
      exact r.mem.cell n q c' h1 h2
    · rw [List.getElem?_append_right (by omega)] at h1
      rw [List.getElem?_append_right (by rw [← r.mem.len]; omega)] at h2
      rw [r.mem.len] at h1
      cases hk : n - s.m.length with
      | zero =>
        rw [hk] at h1 h2
        cases h1
        cases h2
        exact hc
      | succ k =>
        rw [hk] at h1
        cases h1
  · obtain ⟨a, b, c'⟩ := r.mem.fo q hq
    refine ⟨a, fun m => ?_, c'⟩
    have m : q ∈ w1.r ++ [p] := m
    rcases List.mem_append.mp m with m | m
    · exact b m
    · rw [List.mem_singleton.mp m] at hq
      exact hp.2 hq
  · have q := r.slot i sl e
    cases sl with
    | u => trivial
    | d x => exact q
    | c n =>
      obtain ⟨p', e1, e2⟩ := q
      refine ⟨p', e1, ?_⟩
      show (w1.r ++ [p])[n]? = some p'
      rw [List.getElem?_append_left (List.getElem?_eq_some_iff.mp e2).1]
      exact e2
    | f => exact q
    | t b es =>
      obtain ⟨v, e1, z⟩ := q
      refine ⟨v, e1, z.mono (Same.refl _) fun k p' h => ?_⟩
      show (w1.r ++ [p])[k]? = some p'
      rw [List.getElem?_append_left (List.getElem?_eq_some_iff.mp h).1]
      exact h
    | x n =>
      obtain ⟨z1, a, z2, z3, z4⟩ := q
      refine ⟨z1, a, z2, fun m => ?_, z4⟩
      have m : a ∈ w1.r ++ [p] := m
      rcases List.mem_append.mp m with m | m
      · exact z3 m
      · have ea := List.mem_singleton.mp m
        subst ea
        unfold ExO at z4
        cases c with
        | gone => exact hg rfl
        | l ds =>
          obtain ⟨_, _, hv, _⟩ := hc
          rw [z4] at hv
          cases hv
        | k ds =>
          obtain ⟨_, _, hv, _⟩ := hc
          rw [z4] at hv
          cases hv
        | t ds =>
          obtain ⟨_, _, hv, _⟩ := hc
          rw [z4] at hv
          cases hv
        | r ds =>
          obtain ⟨_, _, hv, _⟩ := hc
          rw [z4] at hv
          cases hv
        | i n' j' ds =>
          obtain ⟨_, _, hv, _⟩ := hc
          rw [z4] at hv
          cases hv
        | g x =>
          obtain ⟨_, o1, hv, q1⟩ := hc
          rw [z4] at hv
          exact q1.noX.2 _ _ (Option.some.inj hv).symm
theorem rd_setM {K : Fg} {σ : St} {H : Hp} {D : Ends} {i : Nat} {c : CE} (h : rdS K ec W (cSetM i c) D σ H) : tAsg (rd K ec W c) (gName i) D σ H := by
  obtain ⟨w, s, rfl, hr, h⟩ := h
  refine run_e hr h fun x w1 s1 a le r o f h1 => ?_
  have go : ∀ cell, a = .new cell → cell ≠ .gone → (∀ n j ds, cell ≠ .i n j ds) → OOk K ec W D w (.nx ⟨s1.v.set i (.c s1.m.length), s1.m ++ [cell]⟩) → D.nx (σ.set i (some x)) w1.H := fun cell ea hg hni h2 => by
    subst ea
    obtain ⟨p, rfl, hp, hc⟩ := o
    obtain ⟨r2, l2⟩ := cell_in hg hni hr.mem.inv le r hp (f _ rfl p rfl) hc
    refine h2 _ ⟨w1.G, w1.r ++ [p], w1.F, w1.H⟩ l2 (r2.set i (x := .ref p) (sl := .c s1.m.length) ⟨p, rfl, ?_⟩)
    show (w1.r ++ [p])[s1.m.length]? = some p
    rw [← r.mem.len, List.getElem?_append_right (Nat.le_refl _), Nat.sub_self]
    rfl
  cases a with
  | d y => exact h1.elim
  | ref n => exact h1 _ w1 le (r.set i (slOf_ok (a := .ref n) o rfl))
  | t b es => exact h1 _ w1 le (r.set i (slOf_ok (a := .t b es) o rfl))
  | new cell =>
    cases cell with
    | gone => exact h1.elim
    | l ds => exact go _ rfl (by intro z; cases z) (by intro _ _ _ z; cases z) h1
    | k ds => exact go _ rfl (by intro z; cases z) (by intro _ _ _ z; cases z) h1
    | t ds => exact go _ rfl (by intro z; cases z) (by intro _ _ _ z; cases z) h1
    | r ds => exact go _ rfl (by intro z; cases z) (by intro _ _ _ z; cases z) h1
    | i n j ds => exact h1.elim
    | g x => exact go _ rfl (by intro z; cases z) (by intro _ _ _ z; cases z) h1
theorem s_setM (i : Nat) {x : Str} {e : Expr} {c : CE} {pos' pos : Pos} (hN : X.N.Nodup) (h : Ex X ec W e c) (hi : X.N[i]? = some x := by rfl) (hx : Loc X.env.scope x := by first | exact Or.inl rfl | exact Or.inr rfl) (hs : swapsWith e (some (.Name x pos')) pos.line X.env = pure false := by rfl) (hf : X.fn x = true ∨ X.env.scope.names.lookup x = some .local := by first | exact .inl rfl | exact .inr rfl) :
    Sx X ec W (.Assign [.Name x pos'] e pos) (cSetM i c) := (ps_set hN hi hx h hs hf).imp fun D σ H h => rd_setM h
/-- a cell's list, read for the last time, becomes data -/
def cFz (i : Nat) : CE := fun s => match s.v[i]? with
  | some (.d x) => .ok (.d x) s
  | some (.c n) => match s.m[n]? with
    | some (.l ds) => .ok (.d (.list ds)) ⟨s.v.set i (.d (.list ds)), s.m.set n .gone⟩
    | some (.k kvs) => .ok (.d (.dict (kvs.map fun p => (kD p.1, p.2)))) ⟨s.v.set i (.d (.dict (kvs.map fun p => (kD p.1, p.2)))), s.m.set n .gone⟩
    | _ => .bad
  | _ => .bad
theorem cell_out {K : Fg} {w : Wd} {σ : St} {s : S} {i n : Nat} {p : Addr} {o : HO} {d : D} (r : Rel ec K w σ s) (hs : σ[i]? = some (some (.ref p))) (hn : w.r[n]? = some p) (hg : w.G p = none) (ho : w.H p = some o) (nb : NoTb o) (hd : ∀ G', Same w.G G' → G' p = some o → Rp K G' (.ref p) d) :
    Rel ec K ⟨upd w.G p o, w.r, w.F, w.H⟩ σ ⟨s.v.set i (.d d), s.m.set n .gone⟩ ∧ Le w ⟨upd w.G p o, w.r, w.F, w.H⟩ ∧ Rp K (upd w.G p o) (.ref p) d := by
  have sg : Same w.G (upd w.G p o) := same_upd hg
  have le : Le w ⟨upd w.G p o, w.r, w.F, w.H⟩ := ⟨sg, fun _ _ e _ => ⟨_, e, fun _ => rfl⟩, List.prefix_refl _, fun _ h => .inl h, rfl⟩
  have rp := hd _ sg upd_same
  refine ⟨⟨⟨fun b u e => ?_, by show w.r.length = (s.m.set n .gone).length; rw [List.length_set]; exact r.mem.len, r.mem.nd, fun k q c h1 h2 => ?_, fun q hq => ?_, r.mem.tab, r.mem.inv.trans (le.ch _), noTG_upd r.mem.gt nb, nv_out r.mem.nv⟩, by show σ.length = (s.v.set i (.d d)).length; rw [List.length_set]; exact r.len, fun j sl e => ?_⟩, le, rp⟩
  · have e : upd w.G p o b = some u := e
    by_cases hb : b = p
    · subst hb
      rw [upd_same] at e
      cases e
      exact ho
    · rw [upd_ne hb] at e
      exact r.mem.ext b u e
  · have h2 : (s.m.set n .gone)[k]? = some c := h2
    by_cases hk : n = k
    · subst hk
      have hl : n < s.m.length := by rw [← r.mem.len]; exact (List.getElem?_eq_some_iff.mp hn).1
      rw [List.getElem?_set_self hl] at h2
      cases h2
      have h1 : w.r[n]? = some q := h1
      rw [hn] at h1
      cases h1
      exact ⟨o, upd_same⟩
    · rw [List.getElem?_set_ne hk] at h2
      have hq : q ≠ p := fun z => hk (nd_ix r.mem.nd hn (z ▸ h1))
      refine cOk_mono sg (fun hc => ?_) (fun _ _ e => e) (r.mem.cell k q c h1 h2)
      show upd w.G p o q = none
      rw [upd_ne hq]
      have c0 := r.mem.cell k q c h1 h2
      cases c with
      | l ds => exact c0.1
      | k kvs => exact c0.1
      | t kvs => exact c0.1
      | r ks => exact c0.1
      | i n j ds => exact c0.1
      | g x => exact c0.1
      | gone => exact absurd rfl hc
  · obtain ⟨a, b, c⟩ := r.mem.fo q hq
    refine ⟨?_, b, c⟩
    show upd w.G p o q = none
    have hne : q ≠ p := by
      intro z
      subst z
      exact b (List.mem_of_getElem? hn)
    rw [upd_ne hne]
    exact a
  · have e : (s.v.set i (.d d))[j]? = some sl := e
    by_cases hj : i = j
    · subst hj
      have hl : i < s.v.length := by rw [← r.len]; exact (List.getElem?_eq_some_iff.mp hs).1
      rw [List.getElem?_set_self hl] at e
      cases e
      exact ⟨.ref p, hs, rp⟩
    · rw [List.getElem?_set_ne hj] at e
      exact slOk_mono le (r.slot j sl e)
theorem e_fz (i : Nat) {x : Str} {pos : Pos} (hN : X.N[i]? = some x := by rfl) (hv : Vis X.env.scope x := by first | exact Or.inl rfl | exact Or.inr (Or.inl rfl) | exact Or.inr (Or.inr rfl)) (hd : (x == ("__debug__" : Str)) = false := by decide)
    (hcd : (x == ("__classdict__" : Str)) = false := by decide) : Ex X ec W (.Name x pos) (cFz i) := (pe_var hN hv hd hcd).imp fun σ H Q h => by
  obtain ⟨w, s, rfl, hr, h⟩ := h
  unfold cFz at h
  split at h
  · rename_i y e
    obtain ⟨v, e2, rp⟩ := hr.slot i _ e
    exact ⟨v, e2, h v w (Le.refl w) hr rp .d⟩
  · rename_i n e
    obtain ⟨p, e2, rp⟩ := hr.slot i _ e
    refine ⟨.ref p, e2, ?_⟩
    split at h
    · rename_i ds ec'
      obtain ⟨hg, vs, hv, ra⟩ := hr.mem.cell n p _ rp ec'
      obtain ⟨r2, le2, rr⟩ := cell_out (d := .list ds) hr e2 rp hg hv noTb_l fun G' sg e => .lst (SqL.of e) (ra.mono sg)
      exact h (.ref p) ⟨upd w.G p (.lst vs), w.r, w.F, w.H⟩ le2 r2 rr .d
    · rename_i ds ec'
      obtain ⟨hg, vs, hv, ra⟩ := hr.mem.cell n p _ rp ec'
      obtain ⟨r2, le2, rr⟩ := cell_out (d := .dict (ds.map fun p => (kD p.1, p.2))) hr e2 rp hg hv noTb_k fun G' sg e => .dct e ((rpKv_of ra).mono sg)
      exact h (.ref p) ⟨upd w.G p (.dK vs), w.r, w.F, w.H⟩ le2 r2 rr .d
    · exact h.elim
  · exact h.elim
/-! ### targets -/
/-- slots but those at own are as they were -/
def Off (own : List Nat) (σ σ' : St) : Prop := σ'.length = σ.length ∧ ∀ j, j ∉ own → σ'[j]? = σ[j]?
theorem Off.refl (own : List Nat) (σ : St) : Off own σ σ := ⟨rfl, fun _ _ => rfl⟩
theorem Off.trans {own : List Nat} {σ σ1 σ2 : St} (a : Off own σ σ1) (b : Off own σ1 σ2) : Off own σ σ2 := ⟨b.1.trans a.1, fun j h => (b.2 j h).trans (a.2 j h)⟩
abbrev Tg := D → S → Option S
abbrev Tgs := List D → S → Option S
def rdG (ec : EC) (K : Fg) (own : List Nat) (tg : Tg) : TG := fun v σ H Q => ∃ w s d, w.H = H ∧ Rel ec K w σ s ∧ Rp K w.G v d ∧ ∃ s', tg d s = some s' ∧ ∀ σ', Off own σ σ' → Rel ec K w σ' s' → Q σ' H
def rdGs (ec : EC) (K : Fg) (own : List Nat) (tg : Tgs) : TGs := fun vs σ H Q => ∃ w s ds, w.H = H ∧ Rel ec K w σ s ∧ RpAll K w.G vs ds ∧ ∃ s', tg ds s = some s' ∧ ∀ σ', Off own σ σ' → Rel ec K w σ' s' → Q σ' H
theorem PG.imp {X : Cx} {e : Expr} {t t' : TG} (h : PG X e t) (i : ∀ v σ H Q, t' v σ H Q → t v σ H Q) : PG X e t' := ⟨fun pins s σ H v u Q I r q => h.run pins s σ H v u Q I r (i _ _ _ _ q)⟩
theorem PGs.imp {X : Cx} {es : List Expr} {t t' : TGs} (h : PGs X es t) (i : ∀ v σ H Q, t' v σ H Q → t v σ H Q) : PGs X es t' := ⟨fun pins s σ H v u Q I r q => h.run pins s σ H v u Q I r (i _ _ _ _ q)⟩
def tgN (i : Nat) : Tg := fun d s => some ⟨s.v.set i (.d d), s.m⟩
theorem g_name (i : Nat) {own : List Nat} {x : Str} {pos : Pos} (hN : X.N.Nodup) (ho : i ∈ own) (hi : X.N[i]? = some x := by rfl) (hx : Loc X.env.scope x := by first | exact Or.inl rfl | exact Or.inr rfl) (hf : X.fn x = true ∨ X.env.scope.names.lookup x = some .local := by first | exact .inl rfl | exact .inr rfl) : PG X (.Name x pos) (rdG ec X.K own (tgN i)) :=
  PG.imp (pg_name hN hi hx hf) fun v σ H Q h => by
    obtain ⟨w, s, d, rfl, hr, rp, s', e, q⟩ := h
    cases e
    exact q _ ⟨List.length_set, fun j hj => List.getElem?_set_ne fun z => hj (by rw [← z]; exact ho)⟩ (hr.set i ⟨v, rfl, rp⟩)
def tgNil : Tgs := fun ds s => match ds with
  | [] => some s
  | _ => none
def tgCons (t : Tg) (u : Tgs) : Tgs := fun ds s => match ds with
  | [] => none
  | d :: ds => match t d s with
    | some s1 => u ds s1
    | none => none
def tgTup (n : Nat) (t : Tgs) : Tg := fun d s => match d with
  | .tuple ds => if ds.length = n then t ds s else none
  | _ => none
theorem gs_nil {own : List Nat} : PGs X [] (rdGs ec X.K own tgNil) := PGs.imp pgs_nil fun vs σ H Q h => by
  obtain ⟨w, s, ds, rfl, hr, rp, s', e, q⟩ := h
  cases rp with
  | nil =>
    cases e
    exact ⟨rfl, q σ (Off.refl _ _) hr⟩
  | cons _ _ => cases e
theorem gs_cons {own : List Nat} {e : Expr} {es : List Expr} {t : Tg} {u : Tgs} (h1 : PG X e (rdG ec X.K own t)) (h2 : PGs X es (rdGs ec X.K own u)) (hs : (assignEach (e :: es) X.env).map (·.2) = assign e X.env :: (assignEach es X.env).map (·.2) := by rfl) : PGs X (e :: es) (rdGs ec X.K own (tgCons t u)) :=
  PGs.imp (pgs_cons h1 h2 hs) fun vs σ H Q h => by
    obtain ⟨w, s, ds, rfl, hr, rp, s', e, q⟩ := h
    cases rp with
    | nil => cases e
    | cons r1 r2 =>
      rename_i v vs d ds
      unfold tgCons at e
      dsimp only at e
      cases e1 : t d s with
      | none => rw [e1] at e; cases e
      | some s1 =>
        rw [e1] at e
        exact ⟨v, vs, rfl, w, s, d, rfl, hr, r1, s1, e1, fun σ1 o1 r1' => ⟨w, s1, ds, rfl, r1', r2, s', e, fun σ2 o2 r2' => q σ2 (o1.trans o2) r2'⟩⟩
theorem g_tup {own : List Nat} {es : List Expr} {k n : Nat} {t : Tgs} {pos : Pos} (h : PGs X es (rdGs ec X.K own t)) (hcal : X.calm = true := by rfl) (hn : (assignEach es X.env).length = n := by rfl) (hst : (assignEach es X.env).findIdx? (·.1) = none := by rfl) : PG X (.Tuple es k pos) (rdG ec X.K own (tgTup n t)) :=
  PG.imp (pg_tup hcal h hn hst) fun v σ H Q h => by
    obtain ⟨w, s, d, rfl, hr, rp, s', e, q⟩ := h
    unfold tgTup at e
    split at e
    · rename_i ds
      cases rp with
      | tup hs ra =>
        split at e
        · rename_i hl
          exact ⟨_, _, rfl, SqT.of (hr.mem.ext _ _ hs), by rw [ra.length]; exact hl, w, s, ds, rfl, hr, ra, s', e, q⟩
        · cases e
    · cases e
/-- target = e -/
def cAsg (tg : Tg) (c : CE) : CS := fun s => (cv c s).out fun a s1 => match a with
  | .d d => match tg d s1 with
    | some s2 => .nx s2
    | none => .bad
  | _ => .bad
theorem s_asg {own : List Nat} {tg e : Expr} {t : Tg} {c : CE} {pos : Pos} (he : Ex X ec W e c) (hg : PG X tg (rdG ec X.K own t)) (hs : swapsWithSole [tg] e pos.line X.env = pure false := by rfl) (hw : swappedStores [tg] e X.env = pure none := by rfl) (h1 : (assignEach [tg] X.env).map (·.2) = [assign tg X.env] := by rfl) :
    Sx X ec W (.Assign [tg] e pos) (cAsg t c) := (ps_asg he hg hs hw h1).imp fun D σ H h => by
  obtain ⟨w, s, rfl, hr, h⟩ := h
  refine run_ev hr h fun x w1 s1 a le r o hn h1 => ?_
  cases a with
  | ref n => exact h1.elim
  | t _ _ => exact h1.elim
  | new c => exact h1.elim
  | d d =>
    cases e1 : t d s1 with
    | none => simp only [e1] at h1; exact h1.elim
    | some s2 =>
      simp only [e1] at h1
      exact ⟨w1, s1, d, rfl, r, o, s2, e1, fun σ' _ r' => h1 σ' w1 le r'⟩
/-- a, b = x, y -/
def cPar (i j : Nat) (a b : CE) : CS := fun s => (cv a s).out fun x s1 => (cv b s1).out fun y s2 => match slOf x, slOf y with
  | some p, some q => .nx ⟨(s2.v.set i p).set j q, s2.m⟩
  | _, _ => .bad
theorem s_par (i j : Nat) {x y : Str} {a b : Expr} {ca cb : CE} {px py pt pos : Pos} {kt k2 pt2} (hN : X.N.Nodup) (ha : Ex X ec W a ca) (hb : Ex X ec W b cb) (hij : i ≠ j) (hcal : X.calm = true := by rfl) (hi : X.N[i]? = some x := by rfl) (hj : X.N[j]? = some y := by rfl)
    (hx : X.env.scope.names.lookup x = some .local := by rfl) (hy : X.env.scope.names.lookup y = some .local := by rfl) (hw : swappedStores [.Tuple [.Name x px, .Name y py] kt pt] (.Tuple [a, b] k2 pt2) X.env = pure (some [x, y]) := by rfl)
    (hs : swapsWithSole [.Tuple [.Name x px, .Name y py] kt pt] (.Tuple [a, b] k2 pt2) pos.line X.env = pure false := by rfl) (h0 : starEach [b] X.env = (false, eval b X.env) :: starEach [] X.env := by rfl) (h1 : starEach [a, b] X.env = (false, eval a X.env) :: starEach [b] X.env := by rfl) :
    Sx X ec W (.Assign [.Tuple [.Name x px, .Name y py] kt pt] (.Tuple [a, b] k2 pt2) pos) (cPar i j ca cb) := (ps_par hcal hN hi hj hij hx hy (pa_cons ha (pa_cons hb pa_nil h0) h1) hw hs).imp fun D σ H h => by
  obtain ⟨w, s, rfl, hr, h⟩ := h
  refine run_ev hr h fun v w1 s1 p le r o hn h1 => ?_
  refine run_ev r (h1.le le) fun u w2 s2 q le2 r2 o2 hn2 h2 => ?_
  cases e1 : slOf p with
  | none => simp only [e1] at h2; exact h2.elim
  | some sp =>
    cases e2 : slOf q with
    | none => simp only [e1, e2] at h2; exact h2.elim
    | some sq =>
      simp only [e1, e2] at h2
      exact ⟨v, u, rfl, h2 _ w2 le2 ((r2.set i (slOf_ok (o.le hn le2) e1)).set j (slOf_ok o2 e2))⟩
/-! ### what is walked -/
abbrev CI := S → R (List D)
def ItOk (K : Fg) (w : Wd) (J : It) (ds : List D) : Prop := ∀ w1, Le w w1 → Same w1.G w1.H → ∀ i, (∀ d, ds[i]? = some d → J.go i w1.H ∧ ∀ x H', J.yld i w1.H x H' → ∃ w2, Gr w1 w2 ∧ w2.H = H' ∧ Rp K w2.G x d) ∧ (ds.length ≤ i → J.stop i w1.H)
theorem ItOk.le {K : Fg} {w w1 : Wd} {J : It} {ds : List D} (a : Le w w1) (h : ItOk K w J ds) : ItOk K w1 J ds := fun w2 b => h w2 (a.trans b)
def rdI (K : Fg) (ec : EC) (W : WX) (c : CI) : TI := fun σ H R => ∃ w s, w.H = H ∧ Rel ec K w σ s ∧ Res (fun ds s' => ∀ J w', Le w w' → Rel ec K w' σ s' → ItOk K w' J ds → R J w'.H) (okE K ec W σ w) (c s)
abbrev Ix (X : Cx) (ec : EC) (W : WX) (tg iter : Expr) (c : CI) : Prop := PI X tg iter (rdI X.K ec W c)
theorem PI.imp {X : Cx} {tg iter : Expr} {t t' : TI} (h : PI X tg iter t) (i : ∀ σ H R, t' σ H R → t σ H R) : PI X tg iter t' := ⟨fun pins s σ H R I q => h.run pins s σ H R I (i _ _ _ q)⟩
/-- a list or a tuple of any kind -/
def iSeq (K : Fg) (tl : TE) : TI := fun σ H R => tl σ H fun x H1 => ∃ a, x = .ref a ∧ ((∃ xs, SqL K H1 a xs ∧ R (Itl K a) H1) ∨ ∃ xs, SqT K H1 a xs ∧ R (Itt K a) H1)
theorem pi_seq {tg l : Expr} {tl : TE} (hl : PE X l tl) : PI X tg l (iSeq X.K tl) := by
  refine ⟨fun pins s σ H R I h => ?_⟩
  refine thn (hl.run pins s σ H _ I h) fun v s1 ⟨x, H1, I1, r1, q1⟩ => ?_
  obtain ⟨a, e, hq⟩ := q1
  subst e
  cases r1
  rcases hq with ⟨xs, hq, q⟩ | ⟨xs, hq, q⟩
  · obtain ⟨its, rv, p, hz⟩ := I1.list hq
    refine wpAny_pyIter_list p.isList ?_
    refine ⟨s1.heap.objs.size, [s1.heap.objs.size], _, _, H1, rfl, I1.kept (t' := s1.toks) fun b o e => Heap.get?_push_of_some _ e, turn_list a _, ⟨_, Heap.get?_push_size _ rfl, rfl, rfl⟩, fun b hb => ?_, q⟩
    have e : b = s1.heap.objs.size := by simpa using hb
    subst e
    exact I1.fpOk (Nat.le_refl _) (I1.hok.fresh (Nat.le_refl _))
  · obtain ⟨its, rv, p, hz⟩ := I1.tuple hq
    refine wpAny_pyIter_tuple (show s1.heap.IsTuple a its.toArray from p) ?_
    refine ⟨s1.heap.objs.size, [s1.heap.objs.size], _, _, H1, rfl, I1.kept (t' := s1.toks) fun b o e => Heap.get?_push_of_some _ e, turn_tuple a _, ⟨_, Heap.get?_push_size _ rfl, rfl, rfl⟩, fun b hb => ?_, q⟩
    have e : b = s1.heap.objs.size := by simpa using hb
    subst e
    exact I1.fpOk (Nat.le_refl _) (I1.hok.fresh (Nat.le_refl _))
def ciSeq (c : CE) : CI := fun s => (cv c s).bind fun a s1 => match a with
  | .d (.list ds) => .ok ds s1
  | .d (.tuple ds) => .ok ds s1
  | _ => .bad
theorem i_seq {tg l : Expr} {c : CE} (h : Ex X ec W l c) : Ix X ec W tg l (ciSeq c) := PI.imp (pi_seq h) fun σ H R h => by
  obtain ⟨w, s, rfl, hr, h⟩ := h
  refine run_cv hr h fun x w1 s1 a le1 hr1 ha hn h1 => ?_
  cases a with
  | ref n => exact h1.elim
  | t _ _ => exact h1.elim
  | new c => exact h1.elim
  | d y =>
    have ha : Rp X.K w1.G x y := ha
    cases y with
    | list ds =>
      cases ha with
      | lst hs ra =>
        refine ⟨_, rfl, .inl ⟨_, hr1.mem.ext.seq hs, h1 _ w1 le1 hr1 fun w2 le2 e2 i => ⟨fun d hd => ?_, fun hl => ⟨_, e2.seq (le2.g.seq hs), by rw [ra.length]; exact hl⟩⟩⟩⟩
        obtain ⟨v, ev, rp⟩ := ra.get hd
        refine ⟨⟨_, v, e2.seq (le2.g.seq hs), ev⟩, fun x H' hy => ⟨w2, Gr.refl w2, hy.1.symm, ?_⟩⟩
        have := hy.2 _ (e2.seq (le2.g.seq hs))
        rw [ev] at this
        cases this
        exact rp.mono le2.g
    | tuple ds =>
      cases ha with
      | tup hs ra =>
        refine ⟨_, rfl, .inr ⟨_, SqT.of (hr1.mem.ext _ _ hs), h1 _ w1 le1 hr1 fun w2 le2 e2 i => ⟨fun d hd => ?_, fun hl => ⟨_, SqT.of (e2 _ _ (le2.g _ _ hs)), by rw [ra.length]; exact hl⟩⟩⟩⟩
        obtain ⟨v, ev, rp⟩ := ra.get hd
        refine ⟨⟨_, v, SqT.of (e2 _ _ (le2.g _ _ hs)), ev⟩, fun x H' hy => ⟨w2, Gr.refl w2, hy.1.symm, ?_⟩⟩
        have := hy.2 _ (SqT.of (e2 _ _ (le2.g _ _ hs)))
        rw [ev] at this
        cases this
        exact rp.mono le2.g
    | none => exact h1.elim
    | bool _ => exact h1.elim
    | int _ => exact h1.elim
    | str _ => exact h1.elim
    | dict _ => exact h1.elim
/-- lo, lo + 1, .. -/
def rangeD (lo : Int) : Nat → List D
  | 0 => []
  | n + 1 => .int lo :: rangeD (lo + 1) n
theorem rangeD_len (n : Nat) : ∀ lo : Int, (rangeD lo n).length = n := by
  induction n with
  | zero => intro lo; rfl
  | succ n ih => intro lo; show (rangeD (lo + 1) n).length + 1 = n + 1; rw [ih]
theorem rangeD_get : ∀ (n : Nat) (lo : Int) (i : Nat) (d : D), (rangeD lo n)[i]? = some d → i < n ∧ d = .int (lo + i)
  | 0, lo, i, d, h => by simp [rangeD] at h
  | n + 1, lo, 0, d, h => by
    have h : some (PyData.int lo) = some d := h
    cases h
    exact ⟨Nat.succ_pos _, by simp⟩
  | n + 1, lo, i + 1, d, h => by
    obtain ⟨h1, h2⟩ := rangeD_get n (lo + 1) i d h
    refine ⟨by omega, ?_⟩
    rw [h2]
    congr 1
    omega
theorem it_range {K : Fg} {w : Wd} {lo : Int} {n : Nat} : ItOk K w (Itr lo n) (rangeD lo n) := fun w2 le2 e2 i => ⟨fun d hd => by
  obtain ⟨h1, h2⟩ := rangeD_get n lo i d hd
  refine ⟨h1, fun x H' hy => ⟨w2, Gr.refl w2, hy.1.symm, ?_⟩⟩
  rw [hy.2, h2]
  exact .int _, fun hl => by
  rw [rangeD_len] at hl
  exact hl⟩
def small62 (i : Int) : Bool := decide (-(2 ^ 62) ≤ i ∧ i < 2 ^ 62)
def ciR1 (c : CE) : CI := fun s => (cv c s).bind fun a s1 => match a with
  | .d (.int n) => if small62 n = true then .ok (rangeD 0 n.toNat) s1 else .bad
  | _ => .bad
theorem i_range1 {tg a : Expr} {c : CE} {p pos : Pos} (h : Ex X ec W a c) (hm : X.mg "range" = none) (hg : Gl X "range" := by rfl) (hs : starEach [a] X.env = [(false, eval a X.env)] := by rfl) (h0 : starEach [a] X.env = (false, eval a X.env) :: starEach [] X.env := by rfl) : Ix X ec W tg (.Call (.Name "range" p) [a] [] pos) (ciR1 c) :=
  PI.imp (pi_range1 hg hm (pa_cons h pa_nil h0) hs) fun σ H R h => by
    obtain ⟨w, s, rfl, hr, h⟩ := h
    refine run_cv hr h fun x w1 s1 a le1 hr1 ha hn h1 => ?_
    cases a with
    | ref n => exact h1.elim
    | t _ _ => exact h1.elim
    | new c => exact h1.elim
    | d y =>
      have ha : Rp X.K w1.G x y := ha
      cases y with
      | int n =>
        cases ha
        by_cases hq : small62 n = true
        · simp only [hq, if_true] at h1
          have hq := of_decide_eq_true hq
          exact ⟨n, rfl, hq.1, hq.2, h1 _ w1 le1 hr1 it_range⟩
        · simp only [hq] at h1
          exact h1.elim
      | none => exact h1.elim
      | bool _ => exact h1.elim
      | str _ => exact h1.elim
      | list _ => exact h1.elim
      | tuple _ => exact h1.elim
      | dict _ => exact h1.elim
/-! ### loops -/
def forL (tg : Tg) (body : CS) : List D → S → Out
  | [], s => .nx s
  | d :: ds, s => match tg d s with
    | none => .bad
    | some s1 => match body s1 with
      | .nx s2 => forL tg body ds s2
      | .ct s2 => forL tg body ds s2
      | .bk s2 => .nx s2
      | o => o
def cFor (ci : CI) (tg : Tg) (body : CS) : CS := fun s => (ci s).out fun ds s1 => forL tg body ds s1
theorem s_for {own : List Nat} {iter tgt : Expr} {body : List Stmt} {ci : CI} {tg : Tg} {cb : CS} {pos : Pos} (hp : PassesOwn (model X.prog X.w) X.A X.env X.xe) (hi : Ix X ec W tgt iter ci) (hg : PG X tgt (rdG ec X.K own tg)) (hb : Bx X ec W body cb) (hcal : X.calm = true := by rfl)
    (hs : ∀ x, foldedSetIterable iter X.env x = pure x := by intro _; rfl) : Sx X ec W (.For tgt iter body [] pos) (cFor ci tg cb) := (ps_for hp hcal hi hg hb hs).imp fun D σ H h => by
  obtain ⟨w, s, rfl, hr, h⟩ := h
  refine ⟨w, s, rfl, hr, ?_⟩
  unfold cFor at h
  cases e : ci s with
  | bad => rw [e] at h; exact h
  | ex n s' => rw [e] at h; exact okX_E h
  | ok ds s0 =>
    rw [e] at h
    intro J w0 le0 r0 hJ
    refine ⟨fun i m σ1 H1 => ∃ w1 s1, w1.H = H1 ∧ Le w0 w1 ∧ Rel ec X.K w1 σ1 s1 ∧ i + m = ds.length ∧ OOk X.K ec W D w1 (forL tg cb (ds.drop i) s1), ⟨ds.length, w0, s0, rfl, Le.refl _, r0, Nat.zero_add _, OOk.le le0 h⟩, fun i m σ1 H1 hW => ?_⟩
    obtain ⟨w1, s1, rfl, le1, r1, hm, h1⟩ := hW
    obtain ⟨hgo, hst⟩ := hJ w1 le1 r1.mem.ext i
    by_cases hi' : i < ds.length
    · have hd : ds[i]? = some ds[i] := List.getElem?_eq_getElem hi'
      obtain ⟨g1, g2⟩ := hgo _ hd
      rw [List.drop_eq_getElem_cons hi'] at h1
      unfold forL at h1
      refine .inr ⟨g1, fun σ' H' => ∃ w' s', w'.H = H' ∧ Le w0 w' ∧ Rel ec X.K w' σ' s' ∧ (i + 1) + (m - 1) = ds.length ∧ OOk X.K ec W D w' (forL tg cb (ds.drop (i + 1)) s'), fun σ' H' ⟨w', s', a1, a2, a3, a4, a5⟩ => ⟨m - 1, by omega, w', s', a1, a2, a3, a4, a5⟩, fun x H' hy => ?_⟩
      obtain ⟨w2, gr, rfl, rp⟩ := g2 x H' hy
      have r2 := r1.grow gr
      cases et : tg ds[i] s1 with
      | none => rw [et] at h1; exact h1.elim
      | some s2 =>
        rw [et] at h1
        refine ⟨w2, s1, ds[i], rfl, r2, rp, s2, et, fun σ' _ r3 => ⟨w2, s2, rfl, r3, ?_⟩⟩
        have h2 := OOk.le gr.le h1
        dsimp only at h2
        cases eb : cb s2 with
        | nx s3 =>
          rw [eb] at h2
          exact fun σ4 w4 le4 r4 => ⟨w4, s3, rfl, (le1.trans gr.le).trans le4, r4, by omega, OOk.le le4 h2⟩
        | ct s3 =>
          rw [eb] at h2
          exact fun σ4 w4 le4 r4 => ⟨w4, s3, rfl, (le1.trans gr.le).trans le4, r4, by omega, OOk.le le4 h2⟩
        | bk s3 => rw [eb] at h2; exact h2
        | rt a s3 => rw [eb] at h2; exact h2
        | ex n s3 => rw [eb] at h2; exact h2
        | bad => rw [eb] at h2; exact h2
    · refine .inl ⟨hst (by omega), ?_⟩
      rw [List.drop_eq_nil_of_le (by omega)] at h1
      exact h1 σ1 w1 (Le.refl _) r1
def whL (t : CT) (b : CS) : Nat → S → Out
  | 0, _ => .bad
  | n + 1, s => (t s).out fun x s1 => if x = true then (match b s1 with
      | .nx s2 => whL t b n s2
      | .ct s2 => whL t b n s2
      | .bk s2 => .nx s2
      | o => o) else .nx s1
def cWh (fu : S → Nat) (t : CT) (b : CS) : CS := fun s => whL t b (fu s) s
theorem s_while {c : Expr} {body : List Stmt} {ct : CT} {cb : CS} {pos : Pos} (fu : S → Nat) (hp : PassesOwn (model X.prog X.w) X.A X.env X.xe) (hc : Tx X ec W c ct) (hb : Bx X ec W body cb) : Sx X ec W (.While c body [] pos) (cWh fu ct cb) := (ps_while hp hc hb).imp fun D σ H h => by
  obtain ⟨w, s, rfl, hr, h⟩ := h
  refine ⟨fun m σ1 H1 => ∃ w1 s1, w1.H = H1 ∧ Rel ec X.K w1 σ1 s1 ∧ OOk X.K ec W D w1 (whL ct cb m s1), ⟨fu s, w, s, rfl, hr, h⟩, fun m σ1 H1 hW => ?_⟩
  obtain ⟨w1, s1, rfl, r1, h1⟩ := hW
  cases m with
  | zero => exact h1.elim
  | succ m =>
    refine run_tS r1 (k := fun x s1 => if x = true then (match cb s1 with
      | .nx s2 => whL ct cb m s2
      | .ct s2 => whL ct cb m s2
      | .bk s2 => .nx s2
      | o => o) else .nx s1) h1 fun x w2 s2 le2 r2 h2 => ?_
    cases x with
    | false =>
      rw [if_neg Bool.false_ne_true] at h2 ⊢
      exact h2 σ1 w2 le2 r2
    | true =>
      rw [if_pos rfl] at h2 ⊢
      refine ⟨fun σ' H' => ∃ w' s', w'.H = H' ∧ Rel ec X.K w' σ' s' ∧ OOk X.K ec W D w' (whL ct cb m s'), fun σ' H' q => ⟨m, Nat.lt_succ_self m, q⟩, w2, s2, rfl, r2, ?_⟩
      have h3 := OOk.le le2 h2
      cases eb : cb s2 with
      | nx s3 =>
        rw [eb] at h3
        exact fun σ4 w4 le4 r4 => ⟨w4, s3, rfl, r4, OOk.le le4 h3⟩
      | ct s3 =>
        rw [eb] at h3
        exact fun σ4 w4 le4 r4 => ⟨w4, s3, rfl, r4, OOk.le le4 h3⟩
      | bk s3 => rw [eb] at h3; exact h3
      | rt a s3 => rw [eb] at h3; exact h3
      | ex n s3 => rw [eb] at h3; exact h3
      | bad => rw [eb] at h3; exact h3
end
end Vm
namespace Vm
open PySem L2 PySem.Spec PyProof.Rows
/-! ### defs and their calls -/
inductive RF where
  | ok (a : Rv) (m : List Cell)
  | ex (e : String) (m : List Cell)
  | bad
abbrev Fn := List Sl → List Cell → RF
def ArgsOk (ec : EC) (K : Fg) (w : Wd) : List V → List Sl → Prop := Paired fun v sl => SlOk ec K w (some (some v)) sl
def FOk (K : Fg) (ec : EC) (Q : VK) (E : XK) (w : Wd) : RF → Prop
  | .ok a m' => ∀ x w', Le w w' → Mem ec K w' m' → RvOk K w' x a → FrR w x a → Q x w'.H
  | .ex e m' => ∀ w', Le w w' → Mem ec K w' m' → E (.ref (ec e)) none w'.H
  | .bad => False
def spF (K : Fg) (ec : EC) (n : Nat) (f : Fn) : Sp := fun vs H Q E => vs.length = n ∧ ∃ w m as, w.H = H ∧ Mem ec K w m ∧ ArgsOk ec K w vs as ∧ FOk K ec Q E w (f as m)
/-- arguments of a call of a def: data, cells by themselves -/
abbrev CL := S → R (List Sl)
def lNil : CL := fun s => .ok [] s
def lCons (c : CE) (cl : CL) : CL := fun s => (cv c s).bind fun a s1 => match slOf a with
  | some sl => (cl s1).bind fun r s2 => .ok (sl :: r) s2
  | none => .bad
def rdL (K : Fg) (ec : EC) (W : WX) (c : CL) : TA := fun σ H Q => ∃ w s, w.H = H ∧ Rel ec K w σ s ∧ Res (fun as s' => ∀ vs w', Le w w' → Rel ec K w' σ s' → ArgsOk ec K w' vs as → Q vs w'.H) (okE K ec W σ w) (c s)
/-! ### defs that are called with no repr under way -/
structure Rg (k : Nat) (A : Around) : Prop where
  r : Room k A
  g : A.guards = some []
theorem Rg.mono {j k : Nat} {A : Around} (q : Rg k A) (h : j ≤ k) : Rg j A := ⟨q.r.mono h, q.g⟩
theorem Rg.units {k : Nat} {A : Around} (q : Rg k A) : A.units + 64 < cLine := q.r.units
theorem hu_of {k : Nat} {A : Around} (q : Rg k A) : A.units + 1 < cLine := L2.hu_of q.r
structure FnG (P : Program) (wo : World) (K : Fg) (mg : Str → Option Value) (base : Heap) (k : Nat) (f : Addr) (fd : FuncData) (ps : List Str) (sp : Sp) : Prop where
  len : ∀ vs H Q E, sp vs H Q E → vs.length = ps.length
  go : ∀ {A : Around} {out : List Env} {s : Shared} {H : Hp} {as : Args} {us : List Value} {vs : List V} {Q : VK} {E : XK}, Rg k A → Env0 P wo K mg base A out s H → BindsTo s fd as (ps.zip us) → Vals vs us → sp vs H Q E →
    codeAny (model P wo) A (.call (.ref f) as) (CR (L2.CX P wo) out P wo H s Q E) s
theorem FnG.imp {P : Program} {wo : World} {K : Fg} {mg : Str → Option Value} {base : Heap} {k : Nat} {f : Addr} {fd : FuncData} {ps : List Str} {sp sp' : Sp} (F : FnG P wo K mg base k f fd ps sp) (h : ∀ vs H Q E, sp' vs H Q E → sp vs H Q E) : FnG P wo K mg base k f fd ps sp' :=
  ⟨fun vs H Q E q => F.len vs H Q E (h _ _ _ _ q), fun a b c d q => F.go a b c d (h _ _ _ _ q)⟩
theorem run_fnG {X : Cx} {k : Nat} {f : Addr} {fd : FuncData} {ps : List Str} {sp : Sp} {E : L2.St → XK} {pins : List (Addr × Obj)} {σ : L2.St} {H : Hp} {s : Shared} {Q : VK} {us : List Value} {vs : List V} (F : FnG X.prog X.w X.K X.mg X.base k f fd ps sp) (hr : Rg k X.A) (bi : Binds X.K fd ps [])
    (px : PassesAt (L2.CX X.prog X.w) X σ (E σ)) (J : Inv X pins σ H s) (rv : Vals vs us) (q : sp vs H Q (E σ)) : wpAny (model X.prog X.w) X.A (call (.ref f) us) (EP X pins σ Q) X.xe s := by
  have ln : (us ++ []).length = ps.length := by rw [List.append_nil, ← rv.length]; exact F.len _ _ _ _ q
  have b2 := bi s us J.kIn (by simpa using ln)
  rw [List.append_nil] at b2
  refine wpAny_call (codeAny_mono (F.go hr J.env0 b2 rv q) fun r s2 hz => ?_)
  rcases r with e | (_ | u | _ | _)
  · exact px pins H s e s2 J hz
  · exact False.elim hz
  · first | exact J.after hz | exact False.elim hz
  · first | exact J.after hz | exact False.elim hz
  · first | exact J.after hz | exact False.elim hz
theorem pe_callG {X : Cx} {k : Nat} {f : Addr} {fd : FuncData} {ps : List Str} {sp : Sp} {E : L2.St → XK} {x : Str} {p pos : Pos} {e : Expr} {es : List Expr} {t : TA} (F : FnG X.prog X.w X.K X.mg X.base k f fd ps sp) (hr : Rg k X.A) (gl : Gl X x) (gm : X.mg x = some (.ref f)) (kp : PySem.W.keepIn X.K (.ref f) = true) (bi : Binds X.K fd ps []) (px : ∀ σ, PassesAt (L2.CX X.prog X.w) X σ (E σ))
    (ha : PA X (e :: es) t) (db : (x == ("__debug__" : Str)) = false) (st : starEach (e :: es) X.env = (false, eval e X.env) :: starEach es X.env) (pl : (backTo pos (starEach es X.env)).any (·.1) = false) : PE X (.Call (.Name x p) (e :: es) [] pos) (tCallS sp E t) := by
  constructor
  intro pins s σ H Q J h
  refine wpAny_Call_Name_kw (ld_glob J gl gm ?_ db)
  exact PySem.W.callWith_K (h₀ := X.base) J.ok.mod.kin kp (thn (ha.run pos pins s σ H _ J h) fun us s2 ⟨vs, H2, J2, rv, q⟩ => ⟨J2.kIn, run_fnG F hr bi (px σ) J2 rv q⟩) st pl
section
variable {X : Cx} {ec : EC} {W : WX}
theorem l_nil : PA X [] (rdL X.K ec W lNil) := PA.imp pa_nil fun σ H Q h => by
  obtain ⟨w, s, rfl, hr, h⟩ := h
  exact h [] w (Le.refl w) hr .nil
theorem l_cons {e : Expr} {es : List Expr} {c : CE} {cl : CL} (h1 : Ex X ec W e c) (h2 : PA X es (rdL X.K ec W cl)) (hs : starEach (e :: es) X.env = (false, eval e X.env) :: starEach es X.env := by rfl) : PA X (e :: es) (rdL X.K ec W (lCons c cl)) :=
  PA.imp (pa_cons h1 h2 hs) fun σ H Q h => by
    obtain ⟨w, s, rfl, hr, h⟩ := h
    show rd X.K ec W c σ w.H _
    refine run_cv hr h fun x w1 s1 a le1 hr1 ha hn h1 => ?_
    cases e1 : slOf a with
    | none => simp only [e1] at h1; exact h1.elim
    | some sl =>
      simp only [e1] at h1
      refine ⟨w1, s1, rfl, hr1, ?_⟩
      refine Res.mono h1.bind (fun as s2 h2 vs w2 le2 hr2 rp => ?_) fun _ _ q => okE_le le1 q
      exact h2 (x :: vs) w2 (le1.trans le2) hr2 (.cons (slOk_mono le2 (slOf_ok ha e1)) rp)
def RF.toR (v : List Sl) : RF → R Rv
  | .ok a m => .ok a ⟨v, m⟩
  | .ex e m => .ex e ⟨v, m⟩
  | .bad => .bad
def cCall (f : Fn) (cl : CL) : CE := fun s => (cl s).bind fun as s1 => (f as s1.m).toR s1.v
theorem rel_mem {K : Fg} {w w' : Wd} {σ : L2.St} {v : List Sl} {m m' : List Cell} (le : Le w w') (r : Rel ec K w σ ⟨v, m⟩) (h : Mem ec K w' m') : Rel ec K w' σ ⟨v, m'⟩ := ⟨h, r.len, fun i sl e => slOk_mono le (r.slot i sl e)⟩
theorem e_call {k : Nat} {fa : Addr} {fd : FuncData} {ps : List Str} {f : Fn} {x : Str} {p pos : Pos} {e : Expr} {es : List Expr} {cl : CL} {n : Nat} (F : FnG X.prog X.w X.K X.mg X.base k fa fd ps (spF X.K ec n f)) (hr : Rg k X.A) (hm : X.mg x = some (.ref fa)) (hk : PySem.W.keepIn X.K (.ref fa) = true) (hb : Binds X.K fd ps [])
    (tk : Takes X W) (ha : PA X (e :: es) (rdL X.K ec W cl)) (hl : ∀ s as s', cl s = .ok as s' → as.length = n) (hg : Gl X x := by rfl) (hdb : (x == ("__debug__" : Str)) = false := by decide) (he : starEach (e :: es) X.env = (false, eval e X.env) :: starEach es X.env := by rfl)
    (hpl : (backTo pos (starEach es X.env)).any (·.1) = false := by rfl) : Ex X ec W (.Call (.Name x p) (e :: es) [] pos) (cCall f cl) :=
  (pe_callG F hr hg hm hk hb (fun σ => passAt tk σ) ha hdb he hpl).imp fun σ H Q h => by
    obtain ⟨w, s, rfl, hr, h⟩ := h
    refine ⟨w, s, rfl, hr, ?_⟩
    unfold cCall at h
    cases e1 : cl s with
    | bad => rw [e1] at h; exact h
    | ex n s' => rw [e1] at h; exact h
    | ok as s1 =>
      rw [e1] at h
      intro vs w1 le1 r1 ao
      refine ⟨by rw [paired_len ao]; exact hl _ _ _ e1, w1, s1.m, as, rfl, r1.mem, ao, ?_⟩
      have h1 : Res (okV ec X.K w σ Q) (okE X.K ec W σ w) ((f as s1.m).toR s1.v) := h
      cases e2 : f as s1.m with
      | bad => rw [e2] at h1; exact h1
      | ex n m' =>
        rw [e2] at h1
        exact fun w2 le2 m2 => h1 w2 (le1.trans le2) (rel_mem le2 r1 m2)
      | ok a m' =>
        rw [e2] at h1
        exact fun x w2 le2 m2 o fr => h1 x w2 (le1.trans le2) (rel_mem le2 r1 m2) o (fr.back le1 le2 o)
/-- a written list of arguments has its length -/
def LLen (n : Nat) (cl : CL) : Prop := ∀ s as s', cl s = .ok as s' → as.length = n
theorem ll_nil : LLen 0 lNil := fun s as s' e => by
  cases e
  rfl
theorem ll_cons {n : Nat} {c : CE} {cl : CL} (h : LLen n cl) : LLen (n + 1) (lCons c cl) := fun s as s' e => by
  unfold lCons at e
  cases e1 : cv c s with
  | bad => rw [e1] at e; cases e
  | ex _ _ => rw [e1] at e; cases e
  | ok a s1 =>
    rw [e1] at e
    simp only [R.bind] at e
    cases e3 : slOf a with
    | none => rw [e3] at e; cases e
    | some sl =>
      rw [e3] at e
      dsimp only at e
      cases e2 : cl s1 with
      | bad => rw [e2] at e; cases e
      | ex _ _ => rw [e2] at e; cases e
      | ok xs s2 =>
        rw [e2] at e
        cases e
        show xs.length + 1 = n + 1
        rw [h _ _ _ e2]
end
/-- a def's run: its slots, its cells gone behind it; a list or dict of its own is handed back as new -/
def fin (m : List Cell) : Out → RF
  | .nx s => .ok (.d .none) (s.m.take m.length)
  | .rt (.ref k) s => if m.length ≤ k then (match s.m[k]? with
    | some .gone => .bad
    | some c => .ok (.new c) (s.m.take m.length)
    | none => .bad) else .bad
  | .rt (.t _ _) _ => .bad
  | .rt a s => .ok a (s.m.take m.length)
  | .ex e s => .ex e (s.m.take m.length)
  | _ => .bad
def runF (n : Nat) (c : CS) : Fn := fun as m => fin m (c ⟨as ++ List.replicate (n - as.length) .u, m⟩)
theorem nv_cut {w w' : Wd} {m m' : List Cell} {G : Hp} (hl : w.r.length = m.length) (le : Le w w') (h : NV ec w' m') : NV ec ⟨G, w.r, w.F, w'.H⟩ (m'.take m.length) := by
  refine ⟨fun t q n j ds e1 e2 => ?_, fun p hp => h.2 p (by rw [le.s]; exact hp)⟩
  have ht : t < m.length := by
    rw [← hl]
    exact (List.getElem?_eq_some_iff.mp e1).1
  rw [List.getElem?_take_of_lt ht] at e2
  obtain ⟨h1, h2⟩ := h.1 t q n j ds (le.cell e1) e2
  refine ⟨h1, fun p ks e3 e4 => ?_⟩
  rw [List.getElem?_take_of_lt (by omega)] at e4
  exact h2 p ks (le.cell e3) e4
theorem cut_mem {K : Fg} {w w' : Wd} {m m' : List Cell} (le : Le w w') (hm : Mem ec K w m) (h : Mem ec K w' m') : Mem ec K ⟨w'.G, w.r, w.F, w'.H⟩ (m'.take m.length) ∧ Le w ⟨w'.G, w.r, w.F, w'.H⟩ := by
  have hp : ∀ (n : Nat) (p : Addr), w.r[n]? = some p → w'.r[n]? = some p := fun n p e => le.cell e
  have hl : m.length ≤ m'.length := by
    rw [← hm.len, ← h.len]
    exact le.p.length_le
  have l3 : Le w ⟨w'.G, w.r, w.F, w'.H⟩ := ⟨le.g, le.k, List.prefix_refl _, fun _ q => .inl q, rfl⟩
  refine ⟨⟨h.ext, ?_, hm.nd, fun n p c h1 h2 => ?_, fun p q => ?_, hm.tab.back h.tab, hm.inv.trans (l3.ch _), h.gt, nv_cut hm.len le h.nv⟩, l3⟩
  · show w.r.length = (m'.take m.length).length
    rw [List.length_take, hm.len]
    omega
  · have h2 : (m'.take m.length)[n]? = some c := h2
    have hn : n < m.length := by
      rw [← hm.len]
      exact (List.getElem?_eq_some_iff.mp h1).1
    rw [List.getElem?_take_of_lt hn] at h2
    exact h.cell n p c (hp n p h1) h2
  · have q' : w'.F p := by rw [le.s]; exact q
    obtain ⟨a, b, c⟩ := h.fo p q'
    exact ⟨a, (hm.fo p q).2.1, c⟩
theorem start_slot {n : Nat} {vs : List V} {as : List Sl} {K : Fg} {w : Wd} {N : List Str} (hN : N.length = n) (ao : ArgsOk ec K w vs as) (i : Nat) (sl : Sl) (e : (as ++ List.replicate (n - as.length) Sl.u)[i]? = some sl) : SlOk ec K w (L2.start N vs)[i]? sl := by
  have hlen := paired_len ao
  by_cases hi : i < as.length
  · rw [List.getElem?_append_left hi] at e
    unfold L2.start
    rw [List.getElem?_append_left (by rw [List.length_map]; omega), List.getElem?_map]
    have key : ∀ {vs : List V} {as : List Sl} {i : Nat} {sl : Sl}, ArgsOk ec K w vs as → as[i]? = some sl → SlOk ec K w (Option.map some vs[i]?) sl := by
      intro vs as i sl h
      induction h generalizing i with
      | nil => intro e; simp at e
      | cons r t ih =>
        intro e
        cases i with
        | zero =>
          simp at e
          subst e
          exact r
        | succ i =>
          simp only [List.getElem?_cons_succ] at e ⊢
          exact ih e
    exact key ao e
  · rw [List.getElem?_append_right (by omega), List.getElem?_replicate] at e
    split at e
    · cases e
      trivial
    · cases e
theorem rel_start {K : Fg} {w : Wd} {m : List Cell} {vs : List V} {as : List Sl} {N : List Str} (hm : Mem ec K w m) (ao : ArgsOk ec K w vs as) : Rel ec K w (L2.start N vs) ⟨as ++ List.replicate (N.length - as.length) .u, m⟩ := by
  refine ⟨hm, ?_, fun i sl e => start_slot rfl ao i sl e⟩
  show (L2.start N vs).length = (as ++ List.replicate (N.length - as.length) Sl.u).length
  unfold L2.start
  rw [List.length_append, List.length_append, List.length_map, List.length_replicate, List.length_replicate, paired_len ao]
theorem fin_ok {K : Fg} {ec : EC} {Q : VK} {E : XK} {w : Wd} {m : List Cell} {o : Out} (hm : Mem ec K w m) (h : FOk K ec Q E w (fin m o)) : OOk K ec (fun cls d _ H => E cls d H) { nx := fun _ H' => Q .non H', rt := Q } w o := by
  cases o with
  | bad => exact h
  | bk s => exact h.elim
  | ct s => exact h.elim
  | nx s =>
    intro σ' w' le r
    obtain ⟨m2, le2⟩ := cut_mem le hm r.mem
    exact h .non ⟨w'.G, w.r, w.F, w'.H⟩ le2 m2 .non .d
  | ex e s =>
    intro σ' w' le r
    obtain ⟨m2, le2⟩ := cut_mem le hm r.mem
    exact h ⟨w'.G, w.r, w.F, w'.H⟩ le2 m2
  | rt a s =>
    intro x σ' w' le r o f
    obtain ⟨m2, le2⟩ := cut_mem le hm r.mem
    cases a with
    | d y => exact h x ⟨w'.G, w.r, w.F, w'.H⟩ le2 m2 o .d
    | t b es => exact h.elim
    | new c =>
      obtain ⟨p, ex, ⟨h1, h2⟩, hc⟩ := o
      refine h x ⟨w'.G, w.r, w.F, w'.H⟩ le2 m2 ⟨p, ex, ⟨fun z => h1 (le.mem z), fun z => h2 (by rw [le.s]; exact z)⟩, hc⟩ fun c' e' p' ep => f c' e' p' ep
    | ref k =>
      obtain ⟨p, rfl, hk⟩ := o
      unfold fin at h
      by_cases hl : m.length ≤ k
      · have h : FOk K ec Q E w (match s.m[k]? with
          | some .gone => .bad
          | some c => .ok (.new c) (s.m.take m.length)
          | none => .bad) := by
          simpa only [hl, if_true] using h
        cases ec' : s.m[k]? with
        | none => rw [ec'] at h; exact h.elim
        | some c =>
          rw [ec'] at h
          have hc := r.mem.cell k p c hk ec'
          have np : p ∉ w.r := fun z => by
            obtain ⟨j, hj⟩ := List.getElem?_of_mem z
            have hj2 := le.cell hj
            have : j = k := nd_ix r.mem.nd hj2 hk
            have hj3 := (List.getElem?_eq_some_iff.mp hj).1
            rw [hm.len] at hj3
            omega
          have fp : w.H p = none := by
            rcases le.f p (List.mem_of_getElem? hk) with z | z
            · exact absurd z np
            · exact z
          have nf : ¬ w.F p := fun z => by
            have z' : w'.F p := by rw [le.s]; exact z
            exact (r.mem.fo p z').2.1 (List.mem_of_getElem? hk)
          cases c with
          | gone => exact h.elim
          | l ds => exact h (.ref p) ⟨w'.G, w.r, w.F, w'.H⟩ le2 m2 ⟨p, rfl, ⟨np, nf⟩, hc⟩ fun _ _ q eq => by cases eq; exact fp
          | k ds => exact h (.ref p) ⟨w'.G, w.r, w.F, w'.H⟩ le2 m2 ⟨p, rfl, ⟨np, nf⟩, hc⟩ fun _ _ q eq => by cases eq; exact fp
          | t ds => exact h (.ref p) ⟨w'.G, w.r, w.F, w'.H⟩ le2 m2 ⟨p, rfl, ⟨np, nf⟩, hc⟩ fun _ _ q eq => by cases eq; exact fp
          | r ds => exact h (.ref p) ⟨w'.G, w.r, w.F, w'.H⟩ le2 m2 ⟨p, rfl, ⟨np, nf⟩, hc⟩ fun _ _ q eq => by cases eq; exact fp
          | i n j ds => exact h (.ref p) ⟨w'.G, w.r, w.F, w'.H⟩ le2 m2 ⟨p, rfl, ⟨np, nf⟩, hc⟩ fun _ _ q eq => by cases eq; exact fp
          | g x => exact h (.ref p) ⟨w'.G, w.r, w.F, w'.H⟩ le2 m2 ⟨p, rfl, ⟨np, nf⟩, hc⟩ fun _ _ q eq => by cases eq; exact fp
      · simp only [hl, if_false] at h
        exact h.elim
/-- THE RULE of a def -/
theorem fn_ok {P : Program} {wo : World} {K : Fg} {mg : Str → Option Value} {base : Heap} {ec : EC} {x qual : Str} {st : Stmt} {f : Addr} {fd : FuncData} {N ps : List Str} {k : Nat} (F : Fun K x qual st f fd) (S : FnScope N ps (defScope st)) (c : CS)
    (hb : ∀ (cdv : Value) (A : Around) (outer : List Env) (s : Shared) (H : Hp) (E : XK), Rg k (A.deeper (envOfC qual (defScope st) s.heap.objs.size f cdv)) → Takes (cxOf (L2.CX P wo) P wo K mg base N qual (defScope st) f cdv A outer s H E) (fun cls d _ H => E cls d H) →
      PassesOwn (model P wo) (A.deeper (envOfC qual (defScope st) s.heap.objs.size f cdv)) (envOfC qual (defScope st) s.heap.objs.size f cdv) (cxOf (L2.CX P wo) P wo K mg base N qual (defScope st) f cdv A outer s H E).xe →
      PSs (cxOf (L2.CX P wo) P wo K mg base N qual (defScope st) f cdv A outer s H E) (defBody st) (rdS K ec (fun cls d _ H => E cls d H) c)) :
    FnG P wo K mg base (k + 1) f fd ps (spF K ec ps.length (runF N.length c)) := by
  obtain ⟨oc, od, kV, doc, pm, an, cdv, ct, osl, rfl, lk, hcd⟩ := F.ex
  refine ⟨fun vs H Q E h => h.1, fun {A out s H as us vs Q E} rg e0 bd rv h => ?_⟩
  have inH : K.In s.heap := e0.mod.kin.keeps fun b o e => (e0.bs b o e).1
  have noL : s.heap.NoLimit := e0.mod.nolimit.keeps fun b o e => (e0.bs b o e).1
  refine codeAny_call_function rg.r.depth (inH _ _ lk) rfl S.co S.gen rfl (PySem.W.codeRec_of inH hcd) (bd _ _ _ _ ?_)
  refine wpAny_newFunctionEnv_cells S.kind (fun ⟨n, v⟩ hy => ?_) fun env he s1 z => ?_
  · rcases S.par n (List.of_mem_zip hy).1 with q | q
    · exact .inl q
    · exact .inr ⟨q, PySem.W.cellsFrom_some _ _ _ (.inl q)⟩
  subst he
  refine ⟨noL.keeps z.toInCall.keep, codeAny_func ?_⟩
  have body := hb cdv A out s H E ⟨rg.r.deeper _, rg.g⟩ (takes_of rfl rfl rfl rfl) (passes_of rfl)
  have J : Inv (cxOf (L2.CX P wo) P wo K mg base N qual (defScope st) f cdv A out s H E) [] (start N vs) H s1 := inv_start S rg.r.hd e0 h.1 rv z
  obtain ⟨hl, w, m, aa, rfl, hm, ao, h⟩ := h
  refine wpAny_mono (body.run [] s1 (start N vs) w.H _ J ⟨w, _, rfl, rel_start hm ao, fin_ok hm h⟩) (fun fl s2 hs => ?_) fun e s2 hs => hs
  have out : ∀ {σ' : L2.St} {H' : Hp} {v : V} {u : Value}, Inv (cxOf (L2.CX P wo) P wo K mg base N qual (defScope st) f cdv A out s w.H E) [] σ' H' s2 → RelV v u → Q v H' → L2.CE out P wo w.H s Q u s2 :=
    fun {σ' H' v u} J2 rv2 q2 => ⟨v, H', J2.os, J2.bare, J2.base, J2.hok, rv2, q2⟩
  cases fl with
  | next =>
    obtain ⟨σ', H', J2, q2⟩ := hs
    exact out (v := V.non) (u := Value.none) J2 rfl q2
  | ret u =>
    obtain ⟨v, σ', H', J2, rv2, q2⟩ := hs
    exact out J2 rv2 q2
  | brk =>
    obtain ⟨_, _, _, q2⟩ := hs
    exact q2.elim
  | cont =>
    obtain ⟨_, _, _, q2⟩ := hs
    exact q2.elim
/-! ### raise -/
structure ExcF (K : Fg) (mg : Str → Option Value) (ec : EC) (x : Str) (n : String) : Prop where
  g : mg x = some (.ref (ec n))
  x : PySem.W.excIn K (ec n) [.type "ValueError", .type "Exception", .type "BaseException", .type "object"] "ValueError.__new__" = true
  k : PySem.W.keepIn K (.ref (ec n)) = true
  b : PySem.W.subIn K (.ref (ec n)) (.type "BaseException") = some true
  t : PySem.W.typeIn K (.ref (ec n)) = some (.type "type")
section
variable {X : Cx} {ec : EC} {W : WX}
def cRaise (n : String) : CS := fun s => .ex n s
theorem s_raise {x m : Str} {n : String} {j : Nat} {p p2 pos pos2 : Pos} (F : ExcF X.K X.mg ec x n) (tk : Takes X W) (hcal : X.calm = true := by rfl) (hg : Gl X x := by rfl) (hdb : (x == ("__debug__" : Str)) = false := by decide) : Sx X ec W (.Raise (some (.Call (.Name x p) [.Constant (.str m) j p2] [] pos)) none pos2) (cRaise n) :=
  (ps_raise hcal tk (pmk_own PySem.F.excBase_ValueError F.x F.g F.k (raises_own F.b F.t) hg hdb)).imp fun D σ H h => by
    obtain ⟨w, s, rfl, hr, h⟩ := h
    exact h σ w (Le.refl w) hr
/-! ### writing into a cell -/
def Cell.plain : Cell → Bool
  | .r _ => false
  | .i _ _ _ => false
  | _ => true
theorem nv_set {w : Wd} {m : List Cell} {n : Nat} {p : Addr} {o : HO} {c : Cell} (nd : w.r.Nodup) (hl : w.r.length = m.length) (hn : w.r[n]? = some p) (hF : ∀ q, w.F q → q ≠ p) (hc : c.plain = true) (h : NV ec w m) : NV ec ⟨w.G, w.r, w.F, upd w.H p o⟩ (m.set n c) := by
  have hnm : n < m.length := by
    rw [← hl]
    exact (List.getElem?_eq_some_iff.mp hn).1
  refine ⟨fun t q n0 j ds e1 e2 => ?_, fun q hq => ?_⟩
  · have ne : n ≠ t := fun z => by
      subst z
      rw [List.getElem?_set_self hnm] at e2
      cases e2
      cases hc
    rw [List.getElem?_set_ne ne] at e2
    obtain ⟨h1, h2⟩ := h.1 t q n0 j ds e1 e2
    refine ⟨h1, fun p' ks e3 e4 => ?_⟩
    have ne2 : n ≠ n0 := fun z => by
      subst z
      rw [List.getElem?_set_self hnm] at e4
      cases e4
      cases hc
    rw [List.getElem?_set_ne ne2] at e4
    obtain ⟨ws, k, e5, e6⟩ := h2 p' ks e3 e4
    refine ⟨ws, k, ?_, e6⟩
    have hp : p' ≠ p := fun z => ne2 (nd_ix nd hn (z ▸ e3))
    show upd w.H p o p' = _
    rw [upd_ne hp]
    exact e5
  · rcases h.2 q hq with z | ⟨u, e, z⟩
    · exact .inl z
    · refine .inr ⟨u, ?_, z⟩
      show upd w.H p o q = _
      rw [upd_ne (hF q hq)]
      exact e
theorem cell_set {K : Fg} {w : Wd} {σ : L2.St} {s : S} {n : Nat} {p : Addr} {o : HO} {c : Cell} (r : Rel ec K w σ s) (hn : w.r[n]? = some p) (hg : w.G p = none) (hc : COk K w.G (upd w.H p o) p c) (hpl : c.plain = true := by rfl) :
    Rel ec K ⟨w.G, w.r, w.F, upd w.H p o⟩ σ ⟨s.v, s.m.set n c⟩ ∧ Le w ⟨w.G, w.r, w.F, upd w.H p o⟩ := by
  have le : Le w ⟨w.G, w.r, w.F, upd w.H p o⟩ := ⟨Same.refl _, fun a u e na => ⟨u, by
    show upd w.H p o a = some u
    have hne : a ≠ p := by
      intro z
      subst z
      exact na (List.mem_of_getElem? hn)
    rw [upd_ne hne]
    exact e, fun _ => rfl⟩, List.prefix_refl _, fun _ h => .inl h, rfl⟩
  refine ⟨⟨⟨fun b u e => ?_, by show w.r.length = (s.m.set n c).length; rw [List.length_set]; exact r.mem.len, r.mem.nd, fun k q c' h1 h2 => ?_, fun q hq => ?_, (let ⟨_, a, b, c⟩ := r.liveN hn hg; r.mem.tab.put a b c.1), r.mem.inv.trans (le.ch _), r.mem.gt, nv_set r.mem.nd r.mem.len hn (fun q hq z => (r.mem.fo q hq).2.1 (z ▸ List.mem_of_getElem? hn)) hpl r.mem.nv⟩, r.len, fun i sl e => slOk_mono le (r.slot i sl e)⟩, le⟩
  · show upd w.H p o b = some u
    have hb : b ≠ p := by
      intro z
      subst z
      have e : w.G b = some u := e
      rw [hg] at e
      cases e
    rw [upd_ne hb]
    exact r.mem.ext b u e
  · have h2 : (s.m.set n c)[k]? = some c' := h2
    by_cases hk : n = k
    · subst hk
      have hl : n < s.m.length := by rw [← r.mem.len]; exact (List.getElem?_eq_some_iff.mp hn).1
      rw [List.getElem?_set_self hl] at h2
      cases h2
      have h1 : w.r[n]? = some q := h1
      rw [hn] at h1
      cases h1
      exact hc
    · rw [List.getElem?_set_ne hk] at h2
      have hq : q ≠ p := fun z => hk (nd_ix r.mem.nd hn (z ▸ h1))
      have c0 := r.mem.cell k q c' h1 h2
      refine cOk_mono (Same.refl _) (fun hc => ?_) (fun u _ e => ?_) c0
      · show w.G q = none
        cases c' with
        | l ds => exact c0.1
        | k kvs => exact c0.1
        | t kvs => exact c0.1
        | r ks => exact c0.1
        | i n j ds => exact c0.1
        | g x => exact c0.1
        | gone => exact absurd rfl hc
      · show upd w.H p o q = some u
        rw [upd_ne hq]
        exact e
  · obtain ⟨a, b, u, hu⟩ := r.mem.fo q hq
    refine ⟨a, b, u, ?_⟩
    show upd w.H p o q = some u
    have hne : q ≠ p := by
      intro z
      subst z
      exact b (List.mem_of_getElem? hn)
    rw [upd_ne hne]
    exact hu
/-! ### dicts -/
def getD {κ : Type} [DecidableEq κ] (kvs : List (κ × D)) (k : κ) : Option D := (kvs.find? fun kv => decide (kv.1 = k)).map (·.2)
def putD {κ : Type} [DecidableEq κ] (kvs : List (κ × D)) (k : κ) (v : D) : List (κ × D) :=
  if (kvs.any fun kv => decide (kv.1 = k)) = true then kvs.map (fun kv => if kv.1 = k then (kv.1, v) else kv) else kvs ++ [(k, v)]
theorem kv_get {K : Fg} {G : Hp} {κ : Type} [DecidableEq κ] {k : κ} : ∀ {ws : List (κ × V)} {kvs : List (κ × D)} {d : D}, KvAll K G ws kvs → getD kvs k = some d → ∃ v, valV ws k = some v ∧ Rp K G v d
  | _, _, d, .nil, e => by cases e
  | (k1, v) :: ws, (k2, d2) :: kvs, d, .cons r t, e => by
    obtain ⟨e1, rp⟩ := r
    have e1 : k1 = k2 := e1
    subst e1
    by_cases h : k1 = k
    · subst h
      unfold getD at e
      rw [List.find?_cons] at e
      simp at e
      subst e
      exact ⟨v, valV_pos rfl, rp⟩
    · have e' : getD kvs k = some d := by
        unfold getD at e ⊢
        rw [List.find?_cons] at e
        simp [h] at e ⊢
        exact e
      obtain ⟨v', h1, h2⟩ := kv_get t e'
      exact ⟨v', by rw [valV_neg h]; exact h1, h2⟩
theorem kv_none {K : Fg} {G : Hp} {κ : Type} [DecidableEq κ] {k : κ} : ∀ {ws : List (κ × V)} {kvs : List (κ × D)}, KvAll K G ws kvs → getD kvs k = none → valV ws k = none
  | _, _, .nil, e => rfl
  | (k1, v) :: ws, (k2, d2) :: kvs, .cons r t, e => by
    obtain ⟨e1, rp⟩ := r
    have e1 : k1 = k2 := e1
    subst e1
    by_cases h : k1 = k
    · subst h
      unfold getD at e
      rw [List.find?_cons] at e
      simp at e
    · have e' : getD kvs k = none := by
        unfold getD at e ⊢
        rw [List.find?_cons] at e
        simp [h] at e ⊢
        exact e
      rw [valV_neg h]
      exact kv_none t e'
theorem kv_any {K : Fg} {G : Hp} {κ : Type} [DecidableEq κ] {k : κ} : ∀ {ws : List (κ × V)} {kvs : List (κ × D)}, KvAll K G ws kvs → (ws.any fun kv => decide (kv.1 = k)) = (kvs.any fun kv => decide (kv.1 = k))
  | _, _, .nil => rfl
  | (k1, v) :: ws, (k2, d2) :: kvs, .cons r t => by
    obtain ⟨e1, rp⟩ := r
    have e1 : k1 = k2 := e1
    subst e1
    rw [List.any_cons, List.any_cons, kv_any t]
theorem kv_put {K : Fg} {G : Hp} {κ : Type} [DecidableEq κ] {k : κ} {v : V} {d : D} (rv : Rp K G v d) {ws : List (κ × V)} {kvs : List (κ × D)} (h : KvAll K G ws kvs) : KvAll K G (putK ws k v) (putD kvs k d) := by
  unfold putK putD
  rw [kv_any h]
  split
  · have go : ∀ {ws : List (κ × V)} {kvs : List (κ × D)}, KvAll K G ws kvs → KvAll K G (ws.map fun kv => if kv.1 = k then (kv.1, v) else kv) (kvs.map fun kv => if kv.1 = k then (kv.1, d) else kv) := by
      intro ws kvs h
      induction h with
      | nil => exact .nil
      | cons r t ih =>
        rename_i a b l1 l2
        refine .cons ?_ ih
        obtain ⟨k1, v1⟩ := a
        obtain ⟨k2, d1⟩ := b
        obtain ⟨e1, rp⟩ := r
        have e1 : k1 = k2 := e1
        subst e1
        dsimp only
        split
        · exact ⟨rfl, rv⟩
        · exact ⟨rfl, rp⟩
    exact go h
  · have go : ∀ {ws : List (κ × V)} {kvs : List (κ × D)}, KvAll K G ws kvs → KvAll K G (ws ++ [(k, v)]) (kvs ++ [(k, d)]) := by
      intro ws kvs h
      induction h with
      | nil => exact .cons ⟨rfl, rv⟩ .nil
      | cons r t ih => exact .cons r ih
    exact go h
/-- a key from data -/
def keyOf : D → Option L2.Key
  | .int i => some (.inl i)
  | .str x => some (.inr x)
  | _ => none
theorem keyOf_ok {K : Fg} {w : Wd} {x : V} {d : D} {k : L2.Key} (h : OdOk K w x (.d d)) (e : keyOf d = some k) : x = kV k := by
  unfold keyOf at e
  split at e
  · cases e; exact h.int
  · cases e; exact h.str
  · cases e
def keysOf : List D → Option (List L2.Key)
  | [] => some []
  | d :: r => match keyOf d, keysOf r with
    | some k, some l => some (k :: l)
    | _, _ => none
theorem rp_key {K : Fg} {H : Hp} {x : V} {d : D} {k : L2.Key} (h : Rp K H x d) (e : keyOf d = some k) : x = kV k := by
  unfold keyOf at e
  split at e
  · cases e; cases h; rfl
  · cases e; cases h; rfl
  · cases e
theorem keysOf_ok {K : Fg} {H : Hp} : ∀ {vs : List V} {ds : List D} {ks : List L2.Key}, RpAll K H vs ds → keysOf ds = some ks → vs = ks.map kV
  | _, _, ks, .nil, e => by
    cases e
    rfl
  | _, _, ks, .cons r t, e => by
    unfold keysOf at e
    split at e
    · rename_i k l h1 h2
      cases e
      rw [rp_key r h1, keysOf_ok t h2]
      rfl
    · cases e
def keyT : D → Option (List L2.Key)
  | .tuple ds => keysOf ds
  | _ => none
def getT (es : List (D × D)) (k : List L2.Key) : Option D := (es.find? fun e => decide (keyT e.1 = some k)).map (·.2)
theorem keyOf_kD {k : L2.Key} : keyOf (kD k) = some k := by
  cases k <;> rfl
theorem keysOf_kD : ∀ {ks : List L2.Key}, keysOf (ks.map kD) = some ks
  | [] => rfl
  | k :: ks => by
    show (match keyOf (kD k), keysOf (ks.map kD) with
      | some k, some l => some (k :: l)
      | _, _ => none) = _
    rw [keyOf_kD, keysOf_kD]
theorem keyT_tupK {k : List L2.Key} : keyT (tupK k) = some k := keysOf_kD
/-- what a look into a dict gives -/
def look : Od → Od → Option (Option D)
  | .c (.k kvs), .d x => match keyOf x with
    | some k => some (getD kvs k)
    | none => none
  | .c (.t kvs), .d (.tuple ds) => match keysOf ds with
    | some k => some (getD kvs k)
    | none => none
  | .d (.dict ((.list [], .none) :: es)), .d (.tuple ds) => match keysOf ds with
    | some k => some (getT es k)
    | none => none
  | _, _ => none
def LkR (K : Fg) (G : Hp) : Option D → Option V → Prop
  | some d, r' => ∃ v, r' = some v ∧ Rp K G v d
  | none, r' => r' = none
theorem kt_get {K : Fg} {G : Hp} {k : List L2.Key} : ∀ {ws : List (List L2.Key × V)} {es : List (D × D)}, RpKt K G ws es → LkR K G (getT es k) (valV ws k)
  | _, _, .nil => rfl
  | _, _, .cons (k := k1) (v := v) (ws := ws) (d := d) (es := es) r t => by
    by_cases h : k1 = k
    · have e1 : getT ((tupK k1, d) :: es) k = some d := by
        unfold getT
        rw [List.find?_cons_of_pos (by rw [keyT_tupK, h]; exact decide_eq_true rfl)]
        rfl
      have e2 : valV ((k1, v) :: ws) k = some v := by
        unfold valV
        rw [List.find?_cons_of_pos (by exact decide_eq_true h)]
        rfl
      rw [e1, e2]
      exact ⟨v, rfl, r⟩
    · have e1 : getT ((tupK k1, d) :: es) k = getT es k := by
        unfold getT
        rw [List.find?_cons_of_neg (by rw [keyT_tupK]; simpa using h)]
      have e2 : valV ((k1, v) :: ws) k = valV ws k := by
        unfold valV
        rw [List.find?_cons_of_neg (by simpa using h)]
      rw [e1, e2]
      exact kt_get t
theorem look_ok {K : Fg} {w : Wd} {x y : V} {o o' : Od} {r : Option D} (hx : Same w.G w.H) (h : OdOk K w x o) (h' : OdOk K w y o') (e : look o o' = some r) : ∃ a r', x = .ref a ∧ DGet w.H a y r' ∧ LkR K w.G r r' := by
  unfold look at e
  split at e
  · rename_i kvs z
    split at e
    · rename_i k ek
      cases e
      obtain ⟨p, rfl, ⟨_, ws, hw, ra⟩, _⟩ := h
      refine ⟨p, valV ws k, rfl, ?_, ?_⟩
      · rw [keyOf_ok h' ek]
        exact DGet.k hw
      · cases e2 : getD kvs k with
        | none => exact kv_none ra e2
        | some d => exact kv_get ra e2
    · cases e
  · rename_i kvs z
    split at e
    · rename_i k ek
      cases e
      obtain ⟨p, rfl, ⟨_, ws, hw, ra⟩, _⟩ := h
      obtain ⟨q, vs, rfl, hq, rq⟩ := h'.tup
      refine ⟨p, valV ws k, rfl, ?_, ?_⟩
      · refine DGet.t hw ?_
        rw [← keysOf_ok rq ek]
        exact hx _ _ hq
      · cases e2 : getD kvs k with
        | none => exact kv_none ra e2
        | some d => exact kv_get ra e2
    · cases e
  · split at e
    · rename_i k ek
      cases e
      obtain ⟨p, od, ws, rfl, hw, ra⟩ := OdOk.dictT h
      obtain ⟨q, vs, rfl, hq, rq⟩ := h'.tup
      refine ⟨p, valV ws k, rfl, .inr ⟨ws, k, q, .inr ⟨od, hx _ _ hw⟩, rfl, ?_, rfl⟩, kt_get ra⟩
      rw [← keysOf_ok rq ek]
      exact hx _ _ hq
    · cases e
  · cases e
def opItem (o o' : Od) : Option Rv := match look o o' with
  | some (some d) => some (.d d)
  | _ => none
theorem e_item {o i : Expr} {co ci : CE} {pos : Pos} (hu : X.A.units + 1 < cLine) (h1 : Ex X ec W o co) (h2 : Ex X ec W i ci) (hs : NoSl i := by exact fun _ _ => rfl) : Ex X ec W (.Subscript o i pos) (cOp2 opItem co ci) := (pe_dget hu h1 h2 hs).imp fun σ H Q h =>
  op2 (r := fun x y H Q => ∃ a v, x = .ref a ∧ DGet H a y (some v) ∧ Q v H) (fun w x y o o' rv Q hx hx1 hx2 e q => by
    unfold opItem at e
    split at e
    · rename_i d ed
      cases e
      obtain ⟨a, r', rfl, g, q2⟩ := look_ok hx hx1 hx2 ed
      obtain ⟨v, rfl, rp⟩ := q2
      exact ⟨a, v, rfl, g, post_d q rp⟩
    · cases e) h
/-- a reading by the arguments' order turned -/
def cOp2r (f : Od → Od → Option Rv) (a b : CE) : CE := cOp2 (fun o o' => f o' o) a b
theorem cB_rd {c : CE} {σ : L2.St} {H : Hp} {Q : Bool → Hp → Prop} (h : rdT X.K ec W (cB c) σ H Q) : rd X.K ec W c σ H fun x H' => ∃ k, x = .bl k ∧ Q k H' := by
  obtain ⟨w, s, rfl, hr, h⟩ := h
  unfold cB at h
  refine run_cv hr h fun x w1 s1 a le1 hr1 ha hn h1 => ?_
  split at h1
  · have ha : Rp X.K w1.G x (.bool _) := ha
    cases ha
    exact ⟨_, rfl, h1 w1 le1 hr1⟩
  · exact h1.elim
/-- comparisons as tests -/
theorem t_cmp {op : CmpOp} {a b : Expr} {ca cb : CE} {r : R2} {f : Od → Od → Option Rv} {pos : Pos} (ho : OpR X (compareOp op) r) (hs : Op2S X.K r f) (ha : Ex X ec W a ca) (hb : Ex X ec W b cb) (hm : behindInMarks op b = false := by first | exact nomark _ | rfl) : Tx X ec W (.Compare a [op] [b] pos) (cB (cOp2 f ca cb)) :=
  (pt_cmpR ho ha hb hm).imp fun _ _ _ h => op2 hs (cB_rd h)
/-- d[k] = v -/
def putIn : Cell → D → D → Option Cell
  | .k kvs, x, v => match keyOf x with
    | some k => if kvs.length < 16000000 then some (.k (putD kvs k v)) else none
    | none => none
  | .t kvs, .tuple ds, v => match keysOf ds with
    | some k => if kvs.length < 16000000 then some (.t (putD kvs k v)) else none
    | none => none
  | _, _, _ => none
theorem putIn_plain {c c' : Cell} {k d : D} (e : putIn c k d = some c') : c'.plain = true := by
  unfold putIn at e
  split at e
  · split at e
    · split at e
      · cases e
        rfl
      · cases e
    · cases e
  · split at e
    · split at e
      · cases e
        rfl
      · cases e
    · cases e
  · cases e
theorem lt16 {n : Nat} (h : n < 16000000) : n < sizeLine := Nat.lt_of_lt_of_le h (by decide)
theorem putIn_ok {K : Fg} {w : Wd} {p : Addr} {c c' : Cell} {y v : V} {k d : D} (hx : Same w.G w.H) (h : COk K w.G w.H p c) (hy : Rp K w.G y k) (hv : Rp K w.G v d) (e : putIn c k d = some c') :
    w.G p = none ∧ ∃ o, DPut w.H p y v (upd w.H p o) ∧ COk K w.G (upd w.H p o) p c' := by
  unfold putIn at e
  split at e
  · split at e
    · rename_i kvs x k' ek
      split at e
      · rename_i hl
        cases e
        obtain ⟨hg, ws, hw, ra⟩ := h
        refine ⟨hg, _, ?_, hg, _, upd_same, kv_put hv ra⟩
        rw [rp_key hy ek]
        exact DPut.k hw (by rw [paired_len ra]; exact lt16 hl)
      · cases e
    · cases e
  · split at e
    · rename_i kvs ds k' ek
      split at e
      · rename_i hl
        cases e
        obtain ⟨hg, ws, hw, ra⟩ := h
        cases hy with
        | tup hq rq =>
          refine ⟨hg, _, ?_, hg, _, upd_same, kv_put hv ra⟩
          refine DPut.t hw ?_ (by rw [paired_len ra]; exact lt16 hl)
          rw [← keysOf_ok rq ek]
          exact hx _ _ hq
      · cases e
    · cases e
  · cases e
def cPut (co ci cw : CE) : CS := fun s => (cv cw s).out fun v s1 => (cv co s1).out fun o s2 => (cv ci s2).out fun i s3 => match v, o, i with
  | .d v, .ref n, .d k => match s3.m[n]? with
    | some c => match putIn c k v with
      | some c' => .nx ⟨s3.v, s3.m.set n c'⟩
      | none => .bad
    | none => .bad
  | _, _, _ => .bad
theorem s_dput {o i e : Expr} {co ci ce : CE} {pos' pos : Pos} (hu : X.A.units + 1 < cLine) (ho : Ex X ec W o co) (hi : Ex X ec W i ci) (he : Ex X ec W e ce) (hs : swapsWith e (some (.Subscript o i pos')) pos.line X.env = pure false := by rfl) : Sx X ec W (.Assign [.Subscript o i pos'] e pos) (cPut co ci ce) :=
  (ps_dput hu ho hi he hs).imp fun D σ H h => by
    obtain ⟨w, s, rfl, hr, h⟩ := h
    refine run_ev hr h fun xv w1 s1 v le1 r1 o1 hn1 h1 => ?_
    refine run_ev r1 (h1.le le1) fun xo w2 s2 o le2 r2 o2 hn2 h2 => ?_
    refine run_ev r2 (h2.le le2) fun xi w3 s3 i le3 r3 o3 hn3 h3 => ?_
    cases v with
    | new _ => exact h3.elim
    | t _ _ => exact h3.elim
    | ref _ => exact h3.elim
    | d v =>
      cases o with
      | new _ => exact h3.elim
      | t _ _ => exact h3.elim
      | d _ => exact h3.elim
      | ref n =>
        cases i with
        | new _ => exact h3.elim
        | t _ _ => exact h3.elim
        | ref _ => exact h3.elim
        | d k =>
          dsimp only at h3
          cases em : s3.m[n]? with
          | none => rw [em] at h3; exact h3.elim
          | some c =>
            rw [em] at h3
            dsimp only at h3
            cases ep : putIn c k v with
            | none => rw [ep] at h3; exact h3.elim
            | some c' =>
              rw [ep] at h3
              obtain ⟨p, rfl, hp⟩ := o2
              have hp3 := le3.cell hp
              obtain ⟨hg, u, dp, hc⟩ := putIn_ok r3.mem.ext (r3.mem.cell n p c hp3 em) o3 (Rp.mono (le2.trans le3).g _ _ o1) ep
              obtain ⟨r4, le4⟩ := cell_set r3 hp3 hg hc (putIn_plain ep)
              exact ⟨p, upd w3.H p u, rfl, dp, h3 σ ⟨w3.G, w3.r, w3.F, upd w3.H p u⟩ (le3.trans le4) r4⟩
end
end Vm
namespace Vm
open PySem L2
/-! ### what others hold -/
theorem Rel.f {K : Fg} {w : Wd} {σ : L2.St} {s : S} (r : Rel ec K w σ s) {F : Addr → Prop} (h : ∀ p, F p → w.G p = none ∧ p ∉ w.r ∧ ∃ o, w.H p = some o) (ht : TabOk ec F w.H) (hf : FT ec (w.f F)) : Rel ec K (w.f F) σ s :=
  ⟨⟨r.mem.ext, r.mem.len, r.mem.nd, r.mem.cell, h, ht, r.mem.inv, r.mem.gt, r.mem.nv.1, hf⟩, r.len, fun i sl e => by
    have q := r.slot i sl e
    cases sl with
    | u => trivial
    | d x => exact q
    | c n => exact q
    | x n => exact q
    | t _ _ => exact q
    | f => exact q⟩
/-- a new object that we hold for ourselves -/
abbrev Wd.hold (w : Wd) (p : Addr) (o : HO) : Wd := ⟨w.G, w.r, fun q => w.F q ∨ q = p, upd w.H p o⟩
theorem Rel.hold {K : Fg} {w : Wd} {σ : L2.St} {s : S} (r : Rel ec K w σ s) {p : Addr} {o : HO} (hp : w.H p = none) (n1 : NoTb o := by first | exact noTb_k | exact noTb_l | exact noTb_t) (n2 : NoTup o := by exact fun _ z => by cases z) : Rel ec K (w.hold p o) σ s := by
  have g := r.grow (gr_new (w := w) (o := o) hp)
  refine Rel.f g (F := fun q => w.F q ∨ q = p) (fun q hq => ?_) (g.mem.tab.f fun _ h => .inl h) fun q hq => hq.elim (fun hq => g.mem.nv.2 q hq) fun e => .inr ⟨o, by rw [e]; exact upd_same, n1, n2⟩
  rcases hq with hq | rfl
  · exact g.mem.fo q hq
  · refine ⟨r.mem.ext.free hp, fun m => ?_, o, upd_same⟩
    obtain ⟨u, hu⟩ := r.live m
    rw [hp] at hu
    cases hu
theorem Le.hold {w : Wd} {p : Addr} {o : HO} (hp : w.H p = none) : Le w ((w.hold p o).f w.F) := (gr_new (w := w) (o := o) hp).le
theorem Rel.new0 {K : Fg} {w : Wd} {σ : L2.St} {s : S} (r : Rel ec K w σ s) {p : Addr} (hp : w.H p = none) : ec.w.H p = none := by
  cases e : ec.w.H p with
  | none => rfl
  | some o =>
    by_cases m : p ∈ ec.w.r
    · obtain ⟨u, hu⟩ := r.live (r.mem.inv.mem m)
      rw [hp] at hu
      cases hu
    · obtain ⟨u, hu⟩ := r.mem.inv.kX e m
      rw [show w.H p = some u from hu] at hp
      cases hp
theorem nv_re {w : Wd} {m : List Cell} {p : Addr} {o : HO} (hp : p ∉ w.r) (n3 : NoTb o) (n4 : NoTup o) (h : NV ec w m) : NV ec ⟨w.G, w.r, w.F, upd w.H p o⟩ m := by
  refine ⟨fun t q n j ds e1 e2 => ?_, fun q hq => ?_⟩
  · obtain ⟨h1, h2⟩ := h.1 t q n j ds e1 e2
    refine ⟨h1, fun p' ks e3 e4 => ?_⟩
    obtain ⟨ws, k, e5, e6⟩ := h2 p' ks e3 e4
    refine ⟨ws, k, ?_, e6⟩
    show upd w.H p o p' = _
    have np : p' ≠ p := fun z => hp (z ▸ List.mem_of_getElem? e3)
    rw [upd_ne np]
    exact e5
  · by_cases e : q = p
    · exact .inr ⟨o, by rw [e]; exact upd_same, n3, n4⟩
    · rcases h.2 q hq with z | ⟨u, e2, z⟩
      · exact .inl z
      · refine .inr ⟨u, ?_, z⟩
        show upd w.H p o q = _
        rw [upd_ne e]
        exact e2
/-- what we held is changed, by us -/
theorem Rel.rehold {K : Fg} {w : Wd} {σ : L2.St} {s : S} (r : Rel ec K w σ s) {p : Addr} {o o0 : HO} (hp : w.F p) (hh : w.H p = some o0) (n1 : NoTb o0) (n2 : ∀ f, o0 ≠ .ext f) (hz : ec.w.H p = none) (n3 : NoTb o := by first | exact noTb_k | exact noTb_l | exact noTb_t) (n4 : NoTup o := by exact fun _ z => by cases z) : Rel ec K ⟨w.G, w.r, w.F, upd w.H p o⟩ σ s := by
  obtain ⟨h1, h2, u, h3⟩ := r.mem.fo p hp
  refine ⟨⟨fun b x e => ?_, r.mem.len, r.mem.nd, fun n q c e1 e2 => ?_, fun q hq => ?_, r.mem.tab.put hh n1 (noX_of n2).1, ⟨r.mem.inv.g, fun a u e n => by
      obtain ⟨u', e1, q1⟩ := r.mem.inv.k a u e n
      refine ⟨u', ?_, q1⟩
      show upd w.H p o a = some u'
      rw [upd_ne (ne_of_none e hz)]
      exact e1, r.mem.inv.p, r.mem.inv.f, rfl⟩, r.mem.gt, nv_re h2 n3 n4 r.mem.nv⟩, r.len, fun i sl e => ?_⟩
  · show upd w.H p o b = some x
    have hb : b ≠ p := by
      intro z
      subst z
      have e : w.G b = some x := e
      rw [h1] at e
      cases e
    rw [upd_ne hb]
    exact r.mem.ext b x e
  · have hq : q ≠ p := fun z => by
      subst z
      exact h2 (List.mem_of_getElem? e1)
    have c0 := r.mem.cell n q c e1 e2
    refine cOk_mono (Same.refl _) (fun hc => ?_) (fun x _ e => ?_) c0
    · show w.G q = none
      cases c with
      | l ds => exact c0.1
      | k kvs => exact c0.1
      | t kvs => exact c0.1
      | r ks => exact c0.1
      | i n j ds => exact c0.1
      | g x => exact c0.1
      | gone => exact absurd rfl hc
    · show upd w.H p o q = some x
      rw [upd_ne hq]
      exact e
  · obtain ⟨a, b, x, hx⟩ := r.mem.fo q hq
    refine ⟨a, b, ?_⟩
    by_cases e : q = p
    · subst e
      exact ⟨o, upd_same⟩
    · refine ⟨x, ?_⟩
      show upd w.H p o q = some x
      rw [upd_ne e]
      exact hx
  · have q := r.slot i sl e
    cases sl with
    | u => trivial
    | d x => exact q
    | c n => exact q
    | f => exact q
    | t _ _ => exact q
    | x n =>
      obtain ⟨z1, a, z2, z3, z4⟩ := q
      refine ⟨z1, a, z2, z3, ?_⟩
      show upd w.H p o a = some _
      have na : a ≠ p := fun z => by
        subst z
        rw [hh] at z4
        unfold ExO at z4
        exact n2 _ (Option.some.inj z4)
      rw [upd_ne na]
      exact z4
section
variable {X : Cx} {ec : EC} {W : WX}
/-! ### a written dict -/
def mergeD (acc : List (L2.Key × D)) : List L2.Key → List D → List (L2.Key × D)
  | k :: ks, d :: ds => mergeD (putD acc k d) ks ds
  | _, _ => acc
theorem kv_merge {K : Fg} {G : Hp} : ∀ (ks : List L2.Key) {vs : List V} {ds : List D} {acc : List (L2.Key × V)} {acd : List (L2.Key × D)}, RpAll K G vs ds → KvAll K G acc acd → KvAll K G (mergeK acc (ks.zip vs)) (mergeD acd ks ds)
  | [], vs, ds, acc, acd, h, q => by
    cases ds <;> exact q
  | k :: ks, _, _, acc, acd, .nil, q => q
  | k :: ks, _, _, acc, acd, .cons r t, q => by
    show KvAll K G (mergeK (putK acc k _) (ks.zip _)) (mergeD (putD acd k _) ks _)
    exact kv_merge ks t (kv_put r q)
structure DP (X : Cx) (ec : EC) (W : WX) (pos : Pos) (keys : List (Option Expr)) (values : List Expr) (ks : List L2.Key) (ca : CA) : Prop where
  ex : ∃ trs, PPs X pos keys values trs ∧ ∀ σ H (Q : List (V × V) → Hp → Prop), rdA X.K ec W ca σ H (fun vs H1 => vs.length = ks.length → Q ((ks.map kV).zip vs) H1) → (∀ s ds s', ca s = .ok ds s' → ds.length = ks.length) → tPairs trs σ H Q
theorem dp_nil {pos : Pos} : DP X ec W pos [] [] [] cNil := ⟨[], pps_nil, fun σ H Q h _ => by
  obtain ⟨w, s, rfl, hr, h⟩ := h
  exact h [] w (Le.refl w) hr .nil rfl⟩
theorem rd_cons {c : CE} {ca : CA} {σ : L2.St} {H : Hp} {Q : List V → Hp → Prop} (h : rdA X.K ec W (cCons c ca) σ H Q) : rd X.K ec W c σ H fun x H1 => rdA X.K ec W ca σ H1 fun vs H2 => Q (x :: vs) H2 := by
  obtain ⟨w, s, rfl, hr, h⟩ := h
  refine run_cv hr h fun x w1 s1 a le1 hr1 ha hn h1 => ?_
  cases a with
  | ref n => exact h1.elim
  | t _ _ => exact h1.elim
  | new c => exact absurd rfl (hn c)
  | d y =>
    refine ⟨w1, s1, rfl, hr1, ?_⟩
    refine Res.mono h1.bind (fun ds s2 h2 vs w2 le2 hr2 rp => ?_) fun _ _ q => okE_le le1 q
    exact h2 (x :: vs) w2 (le1.trans le2) hr2 (.cons (Rp.mono le2.g _ _ ha) rp)
theorem dp_cons {pos : Pos} {k : Expr} {key : L2.Key} {v : Expr} {kes : List (Option Expr)} {vs : List Expr} {ks : List L2.Key} {c : CE} {ca : CA} {n : Nat} (hk : PE X k (tC (kV key))) (hv : Ex X ec W v c) (hr : DP X ec W pos kes vs ks ca) (hl : CLen n ca) (hn : ks.length = n) : DP X ec W pos (some k :: kes) (v :: vs) (key :: ks) (cCons c ca) := by
  obtain ⟨trs, h1, h2⟩ := hr.ex
  refine ⟨(tC (kV key), rd X.K ec W c) :: trs, pps_cons hk hv h1, fun σ H Q h _ => ?_⟩
  show rd X.K ec W c σ H fun y H2 => tPairs trs σ H2 fun ps H3 => Q ((kV key, y) :: ps) H3
  obtain ⟨w, s, e, hr, h3⟩ := rd_cons h
  refine ⟨w, s, e, hr, Res.mono h3 (fun rv s' q x w' le r' o f => ?_) fun _ _ q => q⟩
  refine h2 σ w'.H _ ?_ fun s ds s' e => by rw [hl s ds s' e, hn]
  obtain ⟨w2, s2, e2, r2, h4⟩ := q x w' le r' o f
  refine ⟨w2, s2, e2, r2, Res.mono h4 (fun ds s3 q3 vs w3 le3 r3 rp hlen => ?_) fun _ _ q => q⟩
  have e5 : (key :: ks).map kV = kV key :: ks.map kV := rfl
  have q4 := q3 vs w3 le3 r3 rp (by rw [List.length_cons, List.length_cons, hlen])
  rw [e5, List.zip_cons_cons] at q4
  exact q4
def cDisp (ks : List L2.Key) (ca : CA) : CE := fun s => (ca s).bind fun ds s1 => .ok (.new (.k (mergeD [] ks ds))) s1
theorem e_disp {keys : List (Option Expr)} {values : List Expr} {ks : List L2.Key} {ca : CA} {pos : Pos} (h : DP X ec W pos keys values ks ca) (hl : CLen ks.length ca) (h15 : ks.length ≤ 15) (hall : keys.all (·.isSome) = true := by rfl) (hle : keys.length = values.length := by rfl) (h0 : keys ≠ [] := by exact fun z => by cases z) (h15' : keys.length ≤ 15 := by decide) :
    Ex X ec W (.Dict keys values pos) (cDisp ks ca) := by
  obtain ⟨trs, h1, h2⟩ := h.ex
  refine (pe_disp h1 hall hle h0 h15').imp fun σ H Q h => ?_
  obtain ⟨w, s, rfl, hr, h⟩ := h
  intro p hp
  refine h2 σ _ _ ?_ fun s ds s' e => hl s ds s' e
  have hh := hr.hold (o := .dK []) hp
  refine ⟨w.hold p (.dK []), s, rfl, hh, ?_⟩
  have back : ∀ {w' : Wd} {s' : S}, Le (w.hold p (.dK [])) w' → Rel ec X.K w' σ s' → Le w (w'.f w.F) ∧ Rel ec X.K (w'.f w.F) σ s' := fun {w' s'} le r => by
    have hq' : ∀ q, w.F q → w'.F q := fun q hq => by
      rw [le.s]
      exact .inl hq
    exact ⟨(Le.hold hp).trans (le.ch w.F), r.f (fun q hq => r.mem.fo q (hq' q hq)) (hr.mem.tab.back r.mem.tab) fun q hq => r.mem.nv.2 q (hq' q hq)⟩
  unfold cDisp at h
  refine Res.mono h.bind (fun ds s1 q vs w1 le1 r1 ra hlen => ?_) fun e s' q w' le r => by
    obtain ⟨a, b⟩ := back le r
    exact q (w'.f w.F) a b
  have hF : w1.F p := by
    rw [le1.s]
    exact .inr rfl
  have hH : w1.H p = some (.dK []) := le1.kN (p := p) upd_same (fun m => by
    have m : p ∈ w.r := m
    obtain ⟨u, hu⟩ := hr.live m
    rw [hp] at hu
    cases hu) noTb_k
  refine ⟨hH, ks.zip vs, ?_, ?_, ?_⟩
  · have go : ∀ (ks : List L2.Key) (vs : List V), (ks.map kV).zip vs = (ks.zip vs).map fun kv => (kV kv.1, kv.2) := by
      intro ks
      induction ks with
      | nil => intro vs; rfl
      | cons k ks ih =>
        intro vs
        cases vs with
        | nil => rfl
        | cons v vs =>
          show (kV k, v) :: (ks.map kV).zip vs = (kV k, v) :: (ks.zip vs).map _
          rw [ih]
    exact go ks vs
  · rw [List.length_zip]
    exact Nat.le_trans (Nat.min_le_left _ _) h15
  · have r2 := r1.rehold (o := .dK (mergeK [] (ks.zip vs))) hF hH noTb_k (fun _ z => by cases z) (hr.new0 hp)
    obtain ⟨h3, h4, _⟩ := r1.mem.fo p hF
    have r3 : Rel ec X.K ⟨w1.G, w1.r, w.F, upd w1.H p (.dK (mergeK [] (ks.zip vs)))⟩ σ s1 := r2.f (fun q hq => r2.mem.fo q (by
      show w1.F q
      rw [le1.s]
      exact .inl hq)) (hr.mem.tab.back r2.mem.tab) fun q hq => r2.mem.nv.2 q (by
      show w1.F q
      rw [le1.s]
      exact .inl hq)
    have l3 : Le w ⟨w1.G, w1.r, w.F, upd w1.H p (.dK (mergeK [] (ks.zip vs)))⟩ := by
      have l1 := (Le.hold (o := .dK []) hp).trans (le1.ch w.F)
      refine ⟨l1.g, fun a u e n => ?_, l1.p, l1.f, rfl⟩
      obtain ⟨u', e', q'⟩ := l1.k a u e n
      refine ⟨u', ?_, q'⟩
      show upd w1.H p _ a = some u'
      rw [upd_ne (ne_of_none e hp)]
      exact e'
    have nf : ¬ w.F p := fun z => by
      obtain ⟨_, _, u, hu⟩ := hr.mem.fo p z
      rw [hp] at hu
      cases hu
    exact q (.ref p) ⟨w1.G, w1.r, w.F, upd w1.H p (.dK (mergeK [] (ks.zip vs)))⟩ l3 r3 ⟨p, rfl, ⟨h4, nf⟩, h3, _, upd_same, kv_merge ks ra .nil⟩ fun _ _ p' e => by
      cases e
      exact hp
/-! ### lists by their methods -/
/-- f takes the list and gives the answer and the list behind -/
def cMut (f : List D → List D → Option (D × List D)) (co : CE) (ca : CA) : CE := fun s => (cv co s).bind fun o s1 => match o with
  | .ref n => match s1.m[n]? with
    | some (.l _) => (ca s1).bind fun ds s2 => match s2.m[n]? with
      | some (.l xs) => match f xs ds with
        | some (d, ys) => .ok (.d d) ⟨s2.v, s2.m.set n (.l ys)⟩
        | none => .bad
      | _ => .bad
    | _ => .bad
  | _ => .bad
/-- the rule of a method by values does what f says -/
def MutS (K : Fg) (r : V → List V → Hp → VK → Prop) (f : List D → List D → Option (D × List D)) : Prop := ∀ (w : Wd) (p : Addr) (vs : List V) (xs : List D) (us : List V) (ds : List D) (d : D) (ys : List D) (Q : VK), Same w.G w.H → w.G p = none → w.H p = some (.lst vs) → RpAll K w.G vs xs → RpAll K w.G us ds →
  f xs ds = some (d, ys) → (∀ x zs, Rp K w.G x d → RpAll K w.G zs ys → Q x (upd w.H p (.lst zs))) → r (.ref p) us w.H Q
theorem mut_ok {r : V → List V → Hp → VK → Prop} {f : List D → List D → Option (D × List D)} (hs : MutS X.K r f) {co : CE} {ca : CA} {σ : L2.St} {H : Hp} {Q : VK} (h : rd X.K ec W (cMut f co ca) σ H Q) : rd X.K ec W co σ H fun x H1 => tyV X.K "list" x H1 ∧ rdA X.K ec W ca σ H1 fun us H2 => r x us H2 Q := by
  obtain ⟨w, s, rfl, hr, h⟩ := h
  refine run_cv hr h fun x w1 s1 o le1 r1 ho hn h1 => ?_
  cases o with
  | d y => exact h1.elim
  | t _ _ => exact h1.elim
  | new c => exact absurd rfl (hn c)
  | ref n =>
    dsimp only at h1
    obtain ⟨p, rfl, hp⟩ := ho
    split at h1
    · rename_i xs0 e0
      obtain ⟨hg0, vs0, hv0, _⟩ := r1.mem.cell n p _ hp e0
      refine ⟨.inl ⟨rfl, vs0, SqL.of hv0⟩, w1, s1, rfl, r1, ?_⟩
      refine Res.mono h1.bind (fun ds s2 h2 us w2 le2 r2 ra => ?_) fun _ _ q => okE_le le1 q
      split at h2
      · rename_i xs e1
        split at h2
        · rename_i d ys e2
          have hp2 := le2.cell hp
          obtain ⟨hg, vs, hv, rx⟩ := r2.mem.cell n p _ hp2 e1
          refine hs w2 p vs xs us ds d ys Q r2.mem.ext hg hv rx ra e2 fun x zs rd' rz => ?_
          obtain ⟨r3, le3⟩ := cell_set (c := .l ys) (o := .lst zs) r2 hp2 hg ⟨hg, zs, upd_same, rz⟩
          exact h2 x ⟨w2.G, w2.r, w2.F, upd w2.H p (.lst zs)⟩ ((le1.trans le2).trans le3) r3 rd' .d
        · exact h2.elim
      · exact h2.elim
    · exact h1.elim
theorem e_mut {r : V → List V → Hp → VK → Prop} {f : List D → List D → Option (D × List D)} {m : Str} {id : String} {o e : Expr} {es : List Expr} {apos cpos : Pos} {co : CE} {ca : CA} (hs : MutS X.K r f) (hm : MtR X id r) (slot : Slot "list" m id) (hty : typeOf (.builtin id) = pure (.type "method_descriptor"))
    (ho : Ex X ec W o co) (ha : PA X (e :: es) (rdA X.K ec W ca)) (hpe : ∀ {to : TE} {t : TA}, PE X o to → PA X (e :: es) t → PE X (.Call (.Attribute o m apos) (e :: es) [] cpos) (tBM X.K "list" r to t)) : Ex X ec W (.Call (.Attribute o m apos) (e :: es) [] cpos) (cMut f co ca) :=
  (hpe ho ha).imp fun σ H Q h => mut_ok hs h
def fApp : List D → List D → Option (D × List D)
  | xs, [d] => if xs.length < 16000000 then some (.none, xs ++ [d]) else none
  | _, _ => none
theorem m_append {K : Fg} : MutS K rAppend fApp := by
  intro w p vs xs us ds d ys Q hx hg hv rx ru e q
  unfold fApp at e
  split at e
  · split at e
    · rename_i d' hl
      cases e
      cases ru with
      | cons r1 r2 =>
        cases r2
        exact ⟨p, vs, _, rfl, rfl, hv, by rw [rx.length]; exact lt16 hl, q .non _ .non (rx.append (.cons r1 .nil))⟩
    · cases e
  · cases e
def fRev : List D → List D → Option (D × List D)
  | xs, [] => some (.none, xs.reverse)
  | _, _ => none
def fClr : List D → List D → Option (D × List D)
  | _, [] => some (.none, [])
  | _, _ => none
/-- xs.extend(ys), ys a list by values -/
def fExt : List D → List D → Option (D × List D)
  | xs, [.list ys] => if xs.length + ys.length ≤ 16000000 then some (.none, xs ++ ys) else none
  | _, _ => none
/-- xs[i] = e -/
def cPutL (co ci cw : CE) : CS := fun s => (cv cw s).out fun v s1 => (cv co s1).out fun o s2 => (cv ci s2).out fun i s3 => match v, o, i with
  | .d v, .ref n, .d (.int k) => match s3.m[n]? with
    | some (.l xs) => match ixN xs.length k with
      | some j => .nx ⟨s3.v, s3.m.set n (.l (xs.set j v))⟩
      | none => .bad
    | _ => .bad
  | _, _, _ => .bad
theorem s_putL {o i e : Expr} {co ci ce : CE} {pos' pos : Pos} (ho : Ex X ec W o co) (hi : Ex X ec W i ci) (he : Ex X ec W e ce) (hs : swapsWithSole [.Subscript o i pos'] e pos.line X.env = pure false := by rfl) (hw : swappedStores [.Subscript o i pos'] e X.env = pure none := by rfl) (h1 : (assignEach [.Subscript o i pos'] X.env).map (·.2) = [assign (.Subscript o i pos') X.env] := by rfl)
    (ha : ∀ v, assign (.Subscript o i pos') X.env v = (do
      let ov ← holding [v] (eval o X.env)
      let iv ← holding [v, ov] (eval i X.env)
      standAt pos'
      holding [v, ov, iv] (setItem ov iv v)
      release [v, ov, iv] []) := by intro _; rfl) : Sx X ec W (.Assign [.Subscript o i pos'] e pos) (cPutL co ci ce) :=
  (ps_asg he (pg_sub ho hi set_list ha) hs hw h1).imp fun D σ H h => by
    obtain ⟨w, s, rfl, hr, h⟩ := h
    refine run_ev hr h fun xv w1 s1 v le1 r1 o1 hn1 h1 => ?_
    refine run_ev r1 (h1.le le1) fun xo w2 s2 o le2 r2 o2 hn2 h2 => ?_
    refine run_ev r2 (h2.le le2) fun xi w3 s3 i le3 r3 o3 hn3 h3 => ?_
    split at h3
    · rename_i d n k
      split at h3
      · rename_i xs em
        split at h3
        · rename_i j ej
          obtain ⟨p, rfl, hp⟩ := o2
          have o3 : Rp X.K w3.G xi (.int k) := o3
          cases o3
          have hp3 := le3.cell hp
          obtain ⟨hg, vs, hv, ra⟩ := r3.mem.cell n p _ hp3 em
          have rd' : Rp X.K w3.G xv d := Rp.mono (le2.trans le3).g _ _ o1
          obtain ⟨r4, le4⟩ := cell_set (c := .l (xs.set j d)) (o := .lst (vs.set j xv)) r3 hp3 hg ⟨hg, _, upd_same, ra.set rd' j⟩
          refine ⟨p, vs, k, j, rfl, rfl, hv, by rw [ra.length]; exact ej, ?_⟩
          exact h3 σ ⟨w3.G, w3.r, w3.F, upd w3.H p (.lst (vs.set j xv))⟩ (le3.trans le4) r4
        · exact h3.elim
      · exact h3.elim
    · exact h3.elim
/-! ### comprehensions -/
def R.nx {α : Type} : R α → R α
  | .ex _ _ => .bad
  | r => r
def wipeV (v : List Sl) : List Nat → List Sl
  | [] => v
  | i :: is => (wipeV v is).set i .u
abbrev W0 : WX := fun _ _ _ _ => False
def ctYes : CT := fun s => .ok true s
/-- the turns: what was kept so far, what is to come -/
def lcL (own : List Nat) (v0 : List Sl) (tg : Tg) (tt : CT) (el : CE) : List D → List D → List Cell → R Rv
  | [], acc, m => .ok (.new (.l acc)) ⟨v0, m⟩
  | d :: ds, acc, m => match tg d ⟨wipeV v0 own, m⟩ with
    | none => .bad
    | some s1 => (tt s1).nx.bind fun b s2 => if b = true then ((cv el s2).nx.bind fun a s3 => match a with
        | .d x => lcL own v0 tg tt el ds (acc ++ [x]) s3.m
        | _ => .bad) else lcL own v0 tg tt el ds acc s2.m
def cLc (own : List Nat) (ci : CI) (tg : Tg) (tt : CT) (el : CE) : CE := fun s => (ci s).bind fun ds s1 => if ds.length ≤ 16000000 then lcL own s1.v tg tt el ds [] s1.m else .bad
theorem rel_wipe {K : Fg} {w : Wd} {σ : L2.St} {v : List Sl} {m : List Cell} (r : Rel ec K w σ ⟨v, m⟩) : ∀ own : List Nat, Rel ec K w (wipe σ own) ⟨wipeV v own, m⟩
  | [] => r
  | i :: is => by
    have q := rel_wipe r is
    refine ⟨q.mem, by show ((wipe σ is).set i none).length = ((wipeV v is).set i .u).length; rw [List.length_set, List.length_set]; exact q.len, fun j sl e => ?_⟩
    have e : ((wipeV v is).set i .u)[j]? = some sl := e
    show SlOk ec K w ((wipe σ is).set i none)[j]? sl
    by_cases hj : i = j
    · subst hj
      by_cases hl : i < (wipeV v is).length
      · rw [List.getElem?_set_self hl] at e
        cases e
        trivial
      · rw [List.getElem?_eq_none (by rw [List.length_set]; omega)] at e
        cases e
    · rw [List.getElem?_set_ne hj] at e
      rw [List.getElem?_set_ne hj]
      exact q.slot j sl e
theorem wipe_off {own : List Nat} {σ σ' : L2.St} (h : Off own (wipe σ own) σ') : wipe σ' own = wipe σ own := by
  have key : ∀ (is : List Nat) (τ τ' : L2.St), τ'.length = τ.length → (∀ j, j ∉ is → τ'[j]? = τ[j]?) → wipe τ' is = wipe τ is := by
    intro is τ τ' hl hj
    refine List.ext_getElem? fun j => ?_
    by_cases hm : j ∈ is
    · have go : ∀ (is : List Nat) (τ : L2.St), j ∈ is → (wipe τ is)[j]? = if j < τ.length then some none else none := by
        intro is
        induction is with
        | nil => intro τ h; cases h
        | cons i is ih =>
          intro τ h
          show ((wipe τ is).set i none)[j]? = _
          by_cases hi : i = j
          · subst hi
            by_cases hl : i < τ.length
            · rw [List.getElem?_set_self (by rw [wipe_length]; exact hl), if_pos hl]
            · rw [List.getElem?_eq_none (by rw [List.length_set, wipe_length]; omega), if_neg hl]
          · rw [List.getElem?_set_ne hi]
            refine ih τ ?_
            rcases List.mem_cons.mp h with z | z
            · exact absurd z.symm hi
            · exact z
      rw [go is τ' hm, go is τ hm, hl]
    · rw [wipe_out hm, wipe_out hm]
      exact hj j hm
  have h2 : wipe σ' own = wipe (wipe σ own) own := key own _ _ h.1 h.2
  rw [h2]
  refine key own σ (wipe σ own) (wipe_length _ _) fun j hj => wipe_out hj
theorem t_yes {K : Fg} {σ : L2.St} {H : Hp} {Q : Bool → Hp → Prop} (h : rdT K ec W0 ctYes σ H Q) : tYes σ H Q := by
  obtain ⟨w, s, rfl, hr, h⟩ := h
  exact h w (Le.refl w) hr
theorem ts_nil {X : Cx} : PTs X [] (rdT X.K ec W0 ctYes) := ⟨fun pins s σ H Q I h => pts_nil.run pins s σ H Q I (t_yes h)⟩
theorem ts_one {X : Cx} {c : Expr} {ct : CT} (h : Tx X ec W0 c ct) : PTs X [c] (rdT X.K ec W0 ct) := pts_one h
theorem lc_read {σ : L2.St} {H : Hp} {Q : VK} {own : List Nat} {ci : CI} {tg : Tg} {tt : CT} {el : CE} (h : rd X.K ec W (cLc own ci tg tt el) σ H Q) :
    tLc (rdI X.K ec W ci) (rdG ec X.K own tg) (rdT X.K ec W0 tt) (rd X.K ec W0 el) own σ H Q := by
  obtain ⟨w, s, rfl, hr, h⟩ := h
  refine ⟨w, s, rfl, hr, ?_⟩
  unfold cLc at h
  cases e0 : ci s with
  | bad => rw [e0] at h; exact h
  | ex n s' => rw [e0] at h; exact h
  | ok ds s0 =>
    rw [e0] at h
    by_cases hz : ds.length ≤ 16000000
    · simp only [R.bind, hz, if_true] at h
      intro J w0 le0 r0 hJ Dp hD
      have h0 : FinV X.K ec W σ Q w0 (lcL own s0.v tg tt el ds [] s0.m) := FinV.le le0 h
      -- what holds between two turns
      refine ⟨fun i m H1 => ∃ w1 m1 acc vs, w1.H = H1 ∧ w1.F = (fun q => w0.F q ∨ q = Dp) ∧ Le w0 (w1.f w0.F) ∧ Rel ec X.K w1 σ ⟨s0.v, m1⟩ ∧ w1.H Dp = some (.lst vs) ∧ RpAll X.K w1.G vs acc ∧ acc.length ≤ i ∧ i + m = ds.length ∧ FinV X.K ec W σ Q w0 (lcL own s0.v tg tt el (ds.drop i) acc m1),
        ⟨ds.length, w0.hold Dp (.lst []), s0.m, [], [], rfl, rfl, Le.hold hD, r0.hold hD, upd_same, .nil, Nat.le_refl _, Nat.zero_add _, h0⟩, fun i m H1 hW => ?_⟩
      obtain ⟨w1, m1, acc, vs, rfl, hF, le1, r1, hd, ra, hacc, hm, h1⟩ := hW
      have r1f : Rel ec X.K (w1.f w0.F) σ ⟨s0.v, m1⟩ := r1.f (fun q hq => r1.mem.fo q (by rw [hF]; exact .inl hq)) (r0.mem.tab.back r1.mem.tab) fun q hq => r1.mem.nv.2 q (by rw [hF]; exact .inl hq)
      obtain ⟨hgo, hst⟩ := hJ (w1.f w0.F) le1 r1.mem.ext i
      have gD : w1.G Dp = none := (r1.mem.fo Dp (by rw [hF]; exact .inr rfl)).1
      have rD : Dp ∉ w1.r := (r1.mem.fo Dp (by rw [hF]; exact .inr rfl)).2.1
      have fD : ¬ w0.F Dp := fun z => by
        obtain ⟨_, _, o, ho⟩ := r0.mem.fo Dp z
        rw [hD] at ho
        cases ho
      by_cases hi : i < ds.length
      · have hdi : ds[i]? = some ds[i] := List.getElem?_eq_getElem hi
        obtain ⟨g1, g2⟩ := hgo _ hdi
        rw [List.drop_eq_getElem_cons hi] at h1
        unfold lcL at h1
        refine .inr ⟨g1, fun H' => ∃ w' m' acc' vs', w'.H = H' ∧ w'.F = (fun q => w0.F q ∨ q = Dp) ∧ Le w0 (w'.f w0.F) ∧ Rel ec X.K w' σ ⟨s0.v, m'⟩ ∧ w'.H Dp = some (.lst vs') ∧ RpAll X.K w'.G vs' acc' ∧ acc'.length ≤ i + 1 ∧ (i + 1) + (m - 1) = ds.length ∧ FinV X.K ec W σ Q w0 (lcL own s0.v tg tt el (ds.drop (i + 1)) acc' m'),
          fun H' ⟨w', m', acc', vs', a1, a2, a3, a4, a5, a6, a7, a8, a9⟩ => ⟨m - 1, by omega, w', m', acc', vs', a1, a2, a3, a4, a5, a6, a7, a8, a9⟩, fun x H' hy => ?_⟩
        obtain ⟨w2, gr, rfl, rp⟩ := g2 x H' hy
        have gr' : Gr w1 (w2.f w1.F) := ⟨gr.r, rfl, gr.g, gr.h, gr.e, gr.n, gr.t⟩
        have r2 : Rel ec X.K (w2.f w1.F) σ ⟨s0.v, m1⟩ := r1.grow gr'
        cases et : tg ds[i] ⟨wipeV s0.v own, m1⟩ with
        | none => rw [et] at h1; exact h1.elim
        | some s2 =>
          rw [et] at h1
          refine ⟨w2.f w1.F, ⟨wipeV s0.v own, m1⟩, ds[i], rfl, rel_wipe r2 own, rp, s2, et, fun σ' off r3 => ⟨wipe_off off, ?_⟩⟩
          dsimp only at h1
          -- the test
          refine ⟨w2.f w1.F, s2, rfl, r3, ?_⟩
          cases ett : tt s2 with
          | bad => rw [ett] at h1; exact h1.elim
          | ex n s' => rw [ett] at h1; exact h1.elim
          | ok b s3 =>
            rw [ett] at h1
            intro w3 le3 r4
            have hF3 : w3.F = (fun q => w0.F q ∨ q = Dp) := by rw [le3.s, ← hF]
            have lw3 : Le w0 (w3.f w0.F) := (le1.trans (gr'.le.ch w0.F)).trans (le3.ch w0.F)
            have d2 : (w2.f w1.F).H Dp = some (.lst vs) := gr.h _ _ hd
            have d3 : w3.H Dp = some (.lst vs) := le3.kN (p := Dp) d2 (by
              show Dp ∉ w2.r
              rw [gr.r]
              exact rD) noTb_l
            have ra3 : RpAll X.K w3.G vs acc := ra.mono (gr'.g.trans le3.g)
            have r4' : Rel ec X.K w3 σ ⟨s0.v, s3.m⟩ := rel_mem (m := m1) le3 r2 r4.mem
            cases b with
            | false =>
              rw [if_neg Bool.false_ne_true]
              simp only [R.nx, R.bind, Bool.false_eq_true, if_false] at h1
              exact ⟨w3, s3.m, acc, vs, rfl, hF3, lw3, r4', d3, ra3, by omega, by omega, h1⟩
            | true =>
              rw [if_pos rfl]
              simp only [R.nx, R.bind, if_true] at h1
              refine ⟨w3, s3, rfl, r4, ?_⟩
              unfold cv at h1
              cases eel : el s3 with
              | bad => simp only [eel, R.bind] at h1; exact h1.elim
              | ex n s' => simp only [eel, R.bind] at h1; exact h1.elim
              | ok a s4 =>
                simp only [eel, R.bind] at h1
                intro y w4 le4 r5 oa fr
                -- the element became data
                have go : ∀ (d : D) (w5 : Wd), w5.H = w4.H → Le w3 w5 → Rel ec X.K w5 σ' s4 → Rp X.K w5.G y d → FinV X.K ec W σ Q w0 (lcL own s0.v tg tt el (ds.drop (i + 1)) (acc ++ [d]) s4.m) → ∃ acc', w4.H Dp = some (.lst acc') ∧ acc'.length < sizeLine ∧ ∃ w' m' acc'' vs', w'.H = upd w4.H Dp (.lst (acc' ++ [y])) ∧ w'.F = (fun q => w0.F q ∨ q = Dp) ∧ Le w0 (w'.f w0.F) ∧ Rel ec X.K w' σ ⟨s0.v, m'⟩ ∧ w'.H Dp = some (.lst vs') ∧ RpAll X.K w'.G vs' acc'' ∧ acc''.length ≤ i + 1 ∧ (i + 1) + (m - 1) = ds.length ∧ FinV X.K ec W σ Q w0 (lcL own s0.v tg tt el (ds.drop (i + 1)) acc'' m') := by
                  intro d w5 eH le5 r6 rpd h4
                  have hF5 : w5.F = (fun q => w0.F q ∨ q = Dp) := by rw [le5.s, hF3]
                  have d5 : w5.H Dp = some (.lst vs) := le5.kN d3 (r4'.mem.fo Dp (by rw [hF3]; exact .inr rfl)).2.1 noTb_l
                  have ra5 : RpAll X.K w5.G vs acc := ra3.mono le5.g
                  have r6' : Rel ec X.K w5 σ ⟨s0.v, s4.m⟩ := rel_mem (m := s3.m) le5 r4' r6.mem
                  have fD5 : w5.F Dp := by rw [hF5]; exact .inr rfl
                  have r7 := r6'.rehold (o := .lst (vs ++ [y])) fD5 d5 noTb_l (fun _ z => by cases z) (r0.new0 hD)
                  have lw5 : Le w0 (w5.f w0.F) := lw3.trans (le5.ch w0.F)
                  have lw7 : Le w0 ((⟨w5.G, w5.r, w5.F, upd w5.H Dp (.lst (vs ++ [y]))⟩ : Wd).f w0.F) := ⟨lw5.g, fun q u e n => by
                    obtain ⟨u', e', q'⟩ := lw5.k q u e n
                    refine ⟨u', ?_, q'⟩
                    show upd w5.H Dp _ q = some u'
                    rw [upd_ne (ne_of_none e hD)]
                    exact e', lw5.p, lw5.f, rfl⟩
                  rw [← eH]
                  refine ⟨vs, d5, ?_, ⟨w5.G, w5.r, w5.F, upd w5.H Dp (.lst (vs ++ [y]))⟩, s4.m, acc ++ [d], vs ++ [y], rfl, hF5, lw7, r7, upd_same, ra5.append (.cons rpd .nil), ?_, by omega, h4⟩
                  · rw [ra5.length]
                    exact lt16 (by omega)
                  · rw [List.length_append]
                    show acc.length + 1 ≤ i + 1
                    omega
                cases a with
                | ref n => exact h1.elim
                | t _ _ => exact h1.elim
                | d d => exact go d w4 rfl le4 r5 oa h1
                | new c =>
                  cases ed : c.D? with
                  | none => simp only [ed] at h1; exact h1.elim
                  | some d =>
                    simp only [ed] at h1
                    obtain ⟨G', r6, le6, rp6⟩ := freeze r5 oa (d := d) ed
                    exact go d ⟨G', w4.r, w4.F, w4.H⟩ rfl (le4.trans le6) r6 rp6 h1
      · refine .inl ⟨hst (by omega), ?_⟩
        rw [List.drop_eq_nil_of_le (by omega)] at h1
        exact h1 (.ref Dp) (w1.f w0.F) le1 r1f ⟨Dp, rfl, ⟨rD, fD⟩, gD, vs, hd, ra⟩ fun _ _ p e => by
          cases e
          exact hD
    · simp only [R.bind, hz, if_false] at h
      exact h.elim
theorem e_lc {elt tgt iter : Expr} {ifs : List Expr} {scope : Scope} {own : List (Str × Nat)} {pos : Pos} {ci : CI} {tg : Tg} {tt : CT} {el : CE} (hN : X.N.Nodup) (ok : BlkOk X.N X.env.scope scope own) (hi : Ix X ec W tgt iter ci)
    (hg : ∀ (s : Shared) (H : Hp) (C : Addr) (cl : List (Str × Addr)) (fp : List Addr), PG (X.blk s H scope (compEnvC scope cl C X.env) fp) tgt (rdG ec X.K (own.map (·.2)) tg))
    (ht : ∀ (s : Shared) (H : Hp) (C : Addr) (cl : List (Str × Addr)) (fp : List Addr), PTs (X.blk s H scope (compEnvC scope cl C X.env) fp) ifs (rdT X.K ec W0 tt))
    (he : ∀ (s : Shared) (H : Hp) (C : Addr) (cl : List (Str × Addr)) (fp : List Addr), PE (X.blk s H scope (compEnvC scope cl C X.env) fp) elt (rd X.K ec W0 el)) (hcal : X.calm = true := by rfl) (hs : ∀ x, foldedSetIterable iter X.env x = pure x := by intro _; rfl) :
    Ex X ec W (.ListComp elt [⟨tgt, iter, ifs, 0⟩] scope pos) (cLc (own.map (·.2)) ci tg tt el) := (pe_lc hcal hN hi ok hg ht he hs).imp fun σ H Q h => lc_read h
/-- name = [..] on one line -/
theorem lc_set {D : Ends} {σ : L2.St} {H : Hp} {own : List Nat} {ci : CI} {tg : Tg} {tt : CT} {el : CE} {i : Nat} {g : TG} (h : tAsg (rd X.K ec W (cLc own ci tg tt el)) g D σ H) : tAsg (tLc (rdI X.K ec W ci) (rdG ec X.K own tg) (rdT X.K ec W0 tt) (rd X.K ec W0 el) own) g D σ H := lc_read h
theorem s_setLc (i : Nat) {y : Str} {py : Pos} {elt tgt iter : Expr} {ifs : List Expr} {scope : Scope} {own : List (Str × Nat)} {pos spos : Pos} {ci : CI} {tg : Tg} {tt : CT} {el : CE} (hN : X.N.Nodup) (ok : BlkOk X.N X.env.scope scope own) (hi : Ix X ec W tgt iter ci)
    (hg : ∀ (s : Shared) (H : Hp) (C : Addr) (cl : List (Str × Addr)) (fp : List Addr), PG (X.blk s H scope (compEnvC scope cl C X.env) fp) tgt (rdG ec X.K (own.map (·.2)) tg))
    (ht : ∀ (s : Shared) (H : Hp) (C : Addr) (cl : List (Str × Addr)) (fp : List Addr), PTs (X.blk s H scope (compEnvC scope cl C X.env) fp) ifs (rdT X.K ec W0 tt))
    (he : ∀ (s : Shared) (H : Hp) (C : Addr) (cl : List (Str × Addr)) (fp : List Addr), PE (X.blk s H scope (compEnvC scope cl C X.env) fp) elt (rd X.K ec W0 el)) (hcal : X.calm = true := by rfl) (hy : X.N[i]? = some y := by rfl) (hyl : X.env.scope.names.lookup y = some .local := by rfl)
    (hsw : swapsWith (.ListComp elt [⟨tgt, iter, ifs, 0⟩] scope pos) (some (.Name y py)) spos.line X.env = pure true := by exact sw_true rfl rfl rfl (by decide +kernel)) (hs : ∀ x, foldedSetIterable iter X.env x = pure x := by intro _; rfl) :
    Sx X ec W (.Assign [.Name y py] (.ListComp elt [⟨tgt, iter, ifs, 0⟩] scope pos) spos) (cSet i (cLc (own.map (·.2)) ci tg tt el)) :=
  (ps_setLc hcal hN hy hyl hsw hi ok hg ht he hs).imp fun D σ H h => lc_set (i := i) (rd_set h)
theorem s_setLcM (i : Nat) {y : Str} {py : Pos} {elt tgt iter : Expr} {ifs : List Expr} {scope : Scope} {own : List (Str × Nat)} {pos spos : Pos} {ci : CI} {tg : Tg} {tt : CT} {el : CE} (hN : X.N.Nodup) (ok : BlkOk X.N X.env.scope scope own) (hi : Ix X ec W tgt iter ci)
    (hg : ∀ (s : Shared) (H : Hp) (C : Addr) (cl : List (Str × Addr)) (fp : List Addr), PG (X.blk s H scope (compEnvC scope cl C X.env) fp) tgt (rdG ec X.K (own.map (·.2)) tg))
    (ht : ∀ (s : Shared) (H : Hp) (C : Addr) (cl : List (Str × Addr)) (fp : List Addr), PTs (X.blk s H scope (compEnvC scope cl C X.env) fp) ifs (rdT X.K ec W0 tt))
    (he : ∀ (s : Shared) (H : Hp) (C : Addr) (cl : List (Str × Addr)) (fp : List Addr), PE (X.blk s H scope (compEnvC scope cl C X.env) fp) elt (rd X.K ec W0 el)) (hcal : X.calm = true := by rfl) (hy : X.N[i]? = some y := by rfl) (hyl : X.env.scope.names.lookup y = some .local := by rfl)
    (hsw : swapsWith (.ListComp elt [⟨tgt, iter, ifs, 0⟩] scope pos) (some (.Name y py)) spos.line X.env = pure true := by exact sw_true rfl rfl rfl (by decide +kernel)) (hs : ∀ x, foldedSetIterable iter X.env x = pure x := by intro _; rfl) :
    Sx X ec W (.Assign [.Name y py] (.ListComp elt [⟨tgt, iter, ifs, 0⟩] scope pos) spos) (cSetM i (cLc (own.map (·.2)) ci tg tt el)) :=
  (ps_setLc hcal hN hy hyl hsw hi ok hg ht he hs).imp fun D σ H h => lc_set (i := i) (rd_setM h)
end
end Vm
namespace Vm
open PySem L2
section
variable {X : Cx} {ec : EC} {W : WX}
/-! ### slices -/
def cutD {α : Type} (xs : List α) (lo hi : Option Int) : List α := (xs.drop (HT.sIx xs.length 0 lo)).take (HT.sIx xs.length xs.length hi - HT.sIx xs.length 0 lo)
theorem rp_cut {K : Fg} {G : Hp} {vs : List V} {ds : List D} (lo hi : Option Int) (h : RpAll K G vs ds) : RpAll K G (cutV vs lo hi) (cutD ds lo hi) := by
  unfold cutV cutD
  rw [h.length]
  exact (h.drop _).take _
theorem SlR.or {r r' : V → Option Int → Option Int → Hp → VK → Prop} (h : SlR X r) (h' : SlR X r') : SlR X (fun x lo hi H Q => r x lo hi H Q ∨ r' x lo hi H Q) := by
  intro pins s σ H x v vl vu lo hi sl Q I rx hs pl pu hh
  rcases hh with hh | hh
  · exact h pins s σ H x v vl vu lo hi sl Q I rx hs pl pu hh
  · exact h' pins s σ H x v vl vu lo hi sl Q I rx hs pl pu hh
def rSlV (K : Fg) : V → Option Int → Option Int → Hp → VK → Prop := fun x lo hi H Q => rSlL K x lo hi H Q ∨ rSlA K x lo hi H Q
theorem slr_V : SlR X (rSlV X.K) := SlR.or sl_list sl_tupA
def opSl : Od → Option Int → Option Int → Option Rv
  | .d (.list ds), lo, hi => some (.new (.l (cutD ds lo hi)))
  | .d (.tuple ds), lo, hi => some (.d (.tuple (cutD ds lo hi)))
  | _, _, _ => none
theorem cut_whole {α : Type} {xs : List α} {lo hi : Option Int} (h : HT.sIx xs.length 0 lo = 0 ∧ HT.sIx xs.length xs.length hi = xs.length) : cutD xs lo hi = xs := by
  unfold cutD
  rw [h.1, h.2, List.drop_zero, Nat.sub_zero, List.take_length]
theorem s_sl {K : Fg} {w : Wd} {x : V} {o : Od} {lo hi : Option Int} {rv : Rv} {Q : VK} (hx : Same w.G w.H) (h : OdOk K w x o) (e : opSl o lo hi = some rv) (q : Post K w rv Q) : rSlV K x lo hi w.H Q := by
  unfold opSl at e
  split at e
  · cases e
    obtain ⟨p, vs, rfl, hs, ra⟩ := h.list hx
    exact .inl ⟨p, vs, rfl, hs, fun a ha => post_lst q (rp_cut lo hi ra) ha hx⟩
  · cases e
    obtain ⟨p, vs, rfl, hs, ra⟩ := h.tup
    refine .inr ⟨p, vs, rfl, SqT.of (hx _ _ hs), fun hw => ?_, fun hw a ha => post_tup q (rp_cut lo hi ra) ha hx⟩
    rw [ra.length] at hw
    rw [cut_whole hw] at q
    exact post_d q (.tup hs ra)
  · cases e
def cI (c : CE) : S → R Int := fun s => (cv c s).bind fun a s1 => match a with
  | .d (.int i) => .ok i s1
  | _ => .bad
def cPt : Option CE → S → R (Option Int)
  | none => fun s => .ok none s
  | some c => fun s => (cI c s).bind fun i s1 => .ok (some i) s1
def rdO (K : Fg) (ec : EC) (W : WX) (c : S → R (Option Int)) : TO := fun σ H Q => ∃ w s, w.H = H ∧ Rel ec K w σ s ∧ Res (fun o s' => ∀ w', Le w w' → Rel ec K w' σ s' → Q o w'.H) (okE K ec W σ w) (c s)
theorem PO.imp {e : Option Expr} {t t' : TO} (h : PO X e t) (i : ∀ σ H Q, t' σ H Q → t σ H Q) : PO X e t' := ⟨fun pins s σ H Q I q => h.run pins s σ H Q I (i _ _ _ q)⟩
theorem o_none : PO X none (rdO X.K ec W (cPt none)) := PO.imp po_none fun σ H Q h => by
  obtain ⟨w, s, rfl, hr, h⟩ := h
  exact h w (Le.refl w) hr
theorem run_i {K : Fg} {σ : L2.St} {w : Wd} {s : S} {α : Type} {c : CE} {k : Int → S → R α} {P : α → S → Prop} {Q : VK} (hr : Rel ec K w σ s) (h : Res P (okE K ec W σ w) ((cI c s).bind k))
    (hk : ∀ i w1 s1, Le w w1 → Rel ec K w1 σ s1 → Res P (okE K ec W σ w) (k i s1) → Q (.int i) w1.H) : rd K ec W c σ w.H Q := by
  have h' : Res P (okE K ec W σ w) ((cv c s).bind fun a s1 => (match a with
    | .d (.int b) => R.ok b s1
    | _ => R.bad).bind k) := by
    unfold cI at h
    cases e : cv c s with
    | bad => rw [e] at h; exact h
    | ex n s' => rw [e] at h; exact h
    | ok a s' => rw [e] at h; exact h
  refine run_cv hr h' fun x w1 s1 a le1 hr1 ha hn h1 => ?_
  cases a with
  | ref n => exact h1.elim
  | t _ _ => exact h1.elim
  | new c => exact h1.elim
  | d y =>
    cases y with
    | int b =>
      have e : x = .int b := by
        have ha : Rp K w1.G x (.int b) := ha
        cases ha
        rfl
      rw [e]
      exact hk b w1 s1 le1 hr1 h1
    | none => exact h1.elim
    | bool _ => exact h1.elim
    | str _ => exact h1.elim
    | list _ => exact h1.elim
    | tuple _ => exact h1.elim
    | dict _ => exact h1.elim
theorem o_some {e : Expr} {c : CE} (h : Ex X ec W e c) : PO X (some e) (rdO X.K ec W (cPt (some c))) := PO.imp (po_some h) fun σ H Q h => by
  obtain ⟨w, s, rfl, hr, h⟩ := h
  exact run_i hr h fun i w1 s1 le1 r1 h1 => ⟨i, rfl, h1 w1 le1 r1⟩
def cSl (c : CE) (lo hi : S → R (Option Int)) : CE := fun s => (cv c s).bind fun a s1 => (lo s1).bind fun l s2 => (hi s2).bind fun u s3 => opt (a.od s3.m) fun o => opt (opSl o l u) fun rv => .ok rv s3
theorem run_o {K : Fg} {σ : L2.St} {w : Wd} {s : S} {α : Type} {c : S → R (Option Int)} {k : Option Int → S → R α} {P : α → S → Prop} {Q : Option Int → Hp → Prop} (hr : Rel ec K w σ s) (h : Res P (okE K ec W σ w) ((c s).bind k))
    (hk : ∀ b w1 s1, Le w w1 → Rel ec K w1 σ s1 → Res P (okE K ec W σ w) (k b s1) → Q b w1.H) : rdO K ec W c σ w.H Q := by
  refine ⟨w, s, rfl, hr, ?_⟩
  cases e : c s with
  | bad => rw [e] at h; exact h
  | ex n s' => rw [e] at h; exact h
  | ok b s' =>
    rw [e] at h
    exact fun w' le r' => hk b w' s' le r' h
theorem e_sl {e : Expr} {lo hi : Option Expr} {c : CE} {cl ch : S → R (Option Int)} {p2 pos : Pos} (he : Ex X ec W e c) (hl : PO X lo (rdO X.K ec W cl)) (hh : PO X hi (rdO X.K ec W ch)) : Ex X ec W (.Subscript e (.Slice lo hi none p2) pos) (cSl c cl ch) :=
  (pe_slice slr_V he hl hh).imp fun σ H Q h => by
    obtain ⟨w, s, rfl, hr, h⟩ := h
    refine run_cv hr h fun x w1 s1 a le1 r1 ha hn h1 => ?_
    refine run_o r1 (Res.mono h1 (fun _ _ q => q) fun _ _ q => okE_le le1 q) fun l w2 s2 le2 r2 h2 => ?_
    refine run_o r2 (Res.mono h2 (fun _ _ q => q) fun _ _ q => okE_le le2 q) fun u w3 s3 le3 r3 h3 => ?_
    obtain ⟨o, e1, h4⟩ := h3.opt
    obtain ⟨rv, e2, h5⟩ := h4.opt
    exact s_sl r3.mem.ext (od_of r3 (ha.le hn (le2.trans le3)) e1) e2 (post_of r3 fun z w' le r' o f => h5 z w' (((le1.trans le2).trans le3).trans le) r' o (f.back ((le1.trans le2).trans le3) le o))
/-! ### a < b < c -/
def cChain (f g : Od → Od → Option Rv) (a b c : CE) : CE := fun s => (cv a s).bind fun x s1 => (cv b s1).bind fun y s2 => opt (x.od s2.m) fun o => opt (y.od s2.m) fun o' => opt (f o o') fun rv => match rv with
  | .d (.bool true) => (cv c s2).bind fun z s3 => opt (y.od s3.m) fun p => opt (z.od s3.m) fun p' => opt (g p p') fun rv' => .ok rv' s3
  | .d (.bool false) => .ok (.d (.bool false)) s2
  | _ => .bad
end
end Vm
namespace Vm
open PySem L2 PySem.Spec PyProof.Rows
/-! ### defs of the text and their promises -/
structure DefF (K : Fg) (mg : Str → Option Value) (x : Str) (st : Stmt) (ps : List Str) : Prop where
  ex : ∃ f fd, Fun K x x st f fd ∧ mg x = some (.ref f) ∧ ∀ us : List Value, us.length = ps.length → bindArgs fd ⟨us, []⟩ = pure (ps.zip us)
theorem defF_mk {K : Fg} {mg : Str → Option Value} {x : Str} {st : Stmt} {ps : List Str} {f : Addr} {oc : Value} {od an : Option Addr} {osl : Array (Option Value)} {kV doc pm cdv ct : Value} (hm : mg x = some (.ref f))
    (l : K.lookup f = some ⟨oc, od, .func (PySem.W.fnOf x x (defArgs st) (defBody st) (defScope st) .none kV doc pm an cdv ct), osl⟩) (c : PySem.W.codeIn K cdv x = true) (k : PySem.W.keepIn K (.ref f) = true)
    (h : ∀ (kV doc pm : Value) (an : Option Addr) (cdv ct : Value) (us : List Value), us.length = ps.length → bindArgs (PySem.W.fnOf x x (defArgs st) (defBody st) (defScope st) .none kV doc pm an cdv ct) ⟨us, []⟩ = pure (ps.zip us)) : DefF K mg x st ps :=
  ⟨f, _, fun_mk l c k, hm, h _ _ _ _ _ _⟩
def Cal (P : Program) (wo : World) (K : Fg) (mg : Str → Option Value) (base : Heap) (ec : EC) (x : Str) (ps : List Str) (f : Fn) (k : Nat) : Prop :=
  ∃ fa fd oc od osl, K.lookup fa = some ⟨oc, od, .func fd, osl⟩ ∧ FnG P wo K mg base k fa fd ps (spF K ec ps.length f) ∧ mg x = some (.ref fa) ∧ PySem.W.keepIn K (.ref fa) = true ∧ Binds K fd ps []
section
variable {P : Program} {wo : World} {K : Fg} {mg : Str → Option Value} {base : Heap} {ec : EC} {x : Str} {st : Stmt} {ps : List Str} {k : Nat} {f : Fn}
theorem DefF.cal (D : DefF K mg x st ps) (h : ∀ {fa : Addr} {fd : FuncData}, Fun K x x st fa fd → FnG P wo K mg base k fa fd ps (spF K ec ps.length f)) : Cal P wo K mg base ec x ps f k := by
  obtain ⟨fa, fd, F, hm, hb⟩ := D.ex
  obtain ⟨oc, od, kV, doc, pm, an, cdv, ct, osl, e, lk, _⟩ := F.ex
  exact ⟨fa, fd, oc, od, osl, lk, h F, hm, F.kp, .all hb⟩
end
section
variable {X : Cx} {ec : EC} {W : WX}
theorem e_callC {k : Nat} {ps : List Str} {f : Fn} {x : Str} {p pos : Pos} {e : Expr} {es : List Expr} {cl : CL} (C : Cal X.prog X.w X.K X.mg X.base ec x ps f k) (hr : Rg k X.A)
    (tk : Takes X W) (ha : PA X (e :: es) (rdL X.K ec W cl)) (hl : LLen ps.length cl) (hg : Gl X x := by rfl) (hdb : (x == ("__debug__" : Str)) = false := by decide) (he : starEach (e :: es) X.env = (false, eval e X.env) :: starEach es X.env := by rfl)
    (hpl : (backTo pos (starEach es X.env)).any (·.1) = false := by rfl) : Ex X ec W (.Call (.Name x p) (e :: es) [] pos) (cCall f cl) := by
  obtain ⟨fa, fd, oc, od, osl, lk, F, hm, hk, hb⟩ := C
  exact e_call F hr hm hk hb tk ha hl hg hdb he hpl
/-- a call that is handed data alone: it runs by itself, our cells held back -/
def Sl.isD : Sl → Bool
  | .d _ => true
  | _ => false
def RF.pure (s : S) : RF → R Rv
  | .ok (.d x) _ => .ok (.d x) s
  | .ok (.new c) _ => .ok (.new c) s
  | .ex e _ => .ex e s
  | _ => .bad
def cCallP (f : Fn) (cl : CL) : CE := fun s => (cl s).bind fun as s1 => if as.all Sl.isD = true then (f as []).pure s1 else .bad
theorem args_data {K : Fg} {w w' : Wd} (g : w.G = w'.G) {vs : List V} {as : List Sl} (h : ArgsOk ec K w vs as) : as.all Sl.isD = true → ArgsOk ec K w' vs as := by
  induction h with
  | nil => exact fun _ => .nil
  | cons r t ih =>
    intro hd
    rw [List.all_cons, Bool.and_eq_true] at hd
    refine .cons ?_ (ih hd.2)
    rename_i v sl vs as
    cases sl with
    | u => trivial
    | d x =>
      obtain ⟨u, e, q⟩ := r
      exact ⟨u, e, g ▸ q⟩
    | c n => exact absurd hd.1 (by simp [Sl.isD])
    | x n => exact absurd hd.1 (by simp [Sl.isD])
    | f => exact absurd hd.1 (by simp [Sl.isD])
    | t _ _ => exact absurd hd.1 (by simp [Sl.isD])
theorem nv_back {w1 w' : Wd} {m : List Cell} {G : Hp} (hk : ∀ a o, w1.H a = some o → ∃ o', w'.H a = some o' ∧ (NoTb o → o' = o)) (h : NV ec w1 m) (hf : ∀ p, w1.F p → p ∈ ec.T.map (·.1) ∨ ∃ o, w'.H p = some o ∧ NoTb o ∧ NoTup o) : NV ec ⟨G, w1.r, w1.F, w'.H⟩ m := by
  refine ⟨fun t q n j ds e1 e2 => ?_, hf⟩
  obtain ⟨h1, h2⟩ := h.1 t q n j ds e1 e2
  refine ⟨h1, fun p' ks e3 e4 => ?_⟩
  obtain ⟨ws, k, e5, e6⟩ := h2 p' ks e3 e4
  obtain ⟨o', e7, z⟩ := hk p' _ e5
  exact ⟨ws, k, by rw [z noTb_t] at e7; exact e7, e6⟩
theorem mem_out {K : Fg} {w1 w' : Wd} {σ : L2.St} {s : S} {m' : List Cell} (r1 : Rel ec K w1 σ s) (le : Le ⟨w1.G, [], fun p => w1.F p ∨ (p ∈ w1.r ∧ w1.G p = none), w1.H⟩ w') (mm : Mem ec K w' m') : Rel ec K ⟨w'.G, w1.r, w1.F, w'.H⟩ σ s ∧ Le w1 ⟨w'.G, w1.r, w1.F, w'.H⟩ := by
  have hk : ∀ a o, w1.H a = some o → ∃ o', w'.H a = some o' ∧ (NoTb o → o' = o) := fun a o e => le.k a o e (by simp)
  have le' : Le w1 ⟨w'.G, w1.r, w1.F, w'.H⟩ := ⟨le.g, fun a o e _ => hk a o e, List.prefix_refl _, fun _ h => .inl h, rfl⟩
  refine ⟨⟨⟨mm.ext, r1.mem.len, r1.mem.nd, fun n p c h1 h2 => ?_, fun p hp => ?_, r1.mem.tab.back mm.tab, r1.mem.inv.trans (le'.ch _), mm.gt, nv_back hk r1.mem.nv fun p hp => mm.nv.2 p (by rw [le.s]; exact .inl hp)⟩, r1.len, fun i sl e => slOk_mono le' (r1.slot i sl e)⟩, le'⟩
  · have c0 := r1.mem.cell n p c h1 h2
    refine cOk_mono le.g (fun hc => ?_) (fun o hc e => ?_) c0
    rotate_left
    · obtain ⟨o', e1, q⟩ := hk p o e
      have hn : NoTb o := by
        cases c with
        | l ds =>
          obtain ⟨_, vs, hv, _⟩ := c0
          rw [hv] at e
          cases e
          exact noTb_l
        | k kvs =>
          obtain ⟨_, vs, hv, _⟩ := c0
          rw [hv] at e
          cases e
          exact noTb_k
        | t kvs =>
          obtain ⟨_, vs, hv, _⟩ := c0
          rw [hv] at e
          cases e
          exact noTb_t
        | r kvs =>
          obtain ⟨_, vs, hv, _⟩ := c0
          rw [hv] at e
          cases e
          exact noTb_t
        | i n' j' kvs =>
          obtain ⟨_, vs, hv, _⟩ := c0
          rw [hv] at e
          cases e
          exact noTb_l
        | g x =>
          obtain ⟨_, o1, hv, q1⟩ := c0
          rw [hv] at e
          cases e
          exact q1.ntb
        | gone => exact absurd rfl hc
      rw [e1, q hn]
    have hg : w1.G p = none := by
      cases c with
      | l ds => exact c0.1
      | k kvs => exact c0.1
      | t kvs => exact c0.1
      | r ks => exact c0.1
      | i n' j' ds => exact c0.1
      | g x => exact c0.1
      | gone => exact absurd rfl hc
    exact (mm.fo p (by rw [le.s]; exact .inr ⟨List.mem_of_getElem? h1, hg⟩)).1
  · obtain ⟨a, b, c⟩ := mm.fo p (by rw [le.s]; exact .inl hp)
    exact ⟨a, (r1.mem.fo p hp).2.1, c⟩
/-- a start: what is there stays -/
structure Bas (b : Wd) : Prop where
  r : b.r = []
  g : ∀ a o, b.H a = some o → b.G a = some o
theorem bas_bot : Bas bot := ⟨rfl, fun _ _ e => e⟩
theorem Bas.le {b w : Wd} (h : Bas b) (g : Same b.G w.G) (e : Same w.G w.H) (hr : w.r = []) : Le b (w.f b.F) :=
  ⟨g, fun a o x _ => ⟨o, e _ _ (g _ _ (h.g a o x)), fun _ => rfl⟩, by rw [h.r]; exact List.nil_prefix, (fun p hp => absurd (show p ∈ w.r from hp) (by rw [hr]; exact List.not_mem_nil)), rfl⟩
theorem e_callP {k : Nat} {ps : List Str} {f : Fn} {x : Str} {p pos : Pos} {e : Expr} {es : List Expr} {cl : CL} (C : Cal X.prog X.w X.K X.mg X.base ec x ps f k) (hr : Rg k X.A)
    (tk : Takes X W) (ha : PA X (e :: es) (rdL X.K ec W cl)) (hl : LLen ps.length cl) (hg : Gl X x := by rfl) (hdb : (x == ("__debug__" : Str)) = false := by decide) (he : starEach (e :: es) X.env = (false, eval e X.env) :: starEach es X.env := by rfl)
    (hpl : (backTo pos (starEach es X.env)).any (·.1) = false := by rfl) (hw : Bas ec.w := by assumption) : Ex X ec W (.Call (.Name x p) (e :: es) [] pos) (cCallP f cl) := by
  obtain ⟨fa, fd, oc, od, osl, lk, F, hm, hk, hb⟩ := C
  exact (pe_callG F hr hg hm hk hb (fun σ => passAt tk σ) ha hdb he hpl).imp fun σ H Q h => by
    obtain ⟨w, s, rfl, hr, h⟩ := h
    refine ⟨w, s, rfl, hr, ?_⟩
    unfold cCallP at h
    cases e1 : cl s with
    | bad => rw [e1] at h; exact h
    | ex n s' => rw [e1] at h; exact h
    | ok as s1 =>
      rw [e1] at h
      intro vs w1 le1 r1 ao
      have h1 : Res (okV ec X.K w σ Q) (okE X.K ec W σ w) (if as.all Sl.isD = true then (f as []).pure s1 else .bad) := h
      by_cases hd : as.all Sl.isD = true
      · rw [if_pos hd] at h1
        refine ⟨by rw [paired_len ao]; exact hl _ _ _ e1, ⟨w1.G, [], fun p => w1.F p ∨ (p ∈ w1.r ∧ w1.G p = none), w1.H⟩, [], as, rfl, ⟨r1.mem.ext, rfl, List.nodup_nil, fun n p c h _ => by simp at h, fun p hp => ?_, r1.mem.tab.f fun _ h => .inl h, hw.le r1.mem.inv.g r1.mem.ext rfl, r1.mem.gt, ⟨fun t q n j ds e1 => by simp at e1, fun p hp => hp.elim (fun hp => r1.mem.nv.2 p hp) fun hp => .inr (by obtain ⟨n, e⟩ := List.getElem?_of_mem hp.1; exact r1.liveT e hp.2)⟩⟩, args_data (w := w1) (w' := ⟨w1.G, [], fun p => w1.F p ∨ (p ∈ w1.r ∧ w1.G p = none), w1.H⟩) rfl ao hd, ?_⟩
        · rcases hp with hp | hp
          · obtain ⟨a, b, c⟩ := r1.mem.fo p hp
            exact ⟨a, by simp, c⟩
          · exact ⟨hp.2, by simp, r1.live hp.1⟩
        · cases e2 : f as [] with
          | bad => rw [e2] at h1; exact h1
          | ex n m' =>
            rw [e2] at h1
            intro w2 le2 m2
            obtain ⟨r3, le3⟩ := mem_out r1 le2 m2
            exact h1 ⟨w2.G, w1.r, w1.F, w2.H⟩ (le1.trans le3) r3
          | ok a m' =>
            rw [e2] at h1
            intro x w2 le2 m2 o fr
            obtain ⟨r3, le3⟩ := mem_out r1 le2 m2
            cases a with
            | ref n => exact h1.elim
            | t _ _ => exact h1.elim
            | d y => exact h1 x ⟨w2.G, w1.r, w1.F, w2.H⟩ (le1.trans le3) r3 o .d
            | new c =>
              obtain ⟨p, ex, ⟨hp1, hp2⟩, hc⟩ := o
              have hf : w1.H p = none := fr c rfl p ex
              have hnr : p ∉ w1.r := fun hm => by
                obtain ⟨o, ho⟩ := r1.live hm
                rw [hf] at ho
                cases ho
              have hnF : ¬ w1.F p := fun hF => hp2 (by rw [le2.s]; exact .inl hF)
              have o3 : RvOk X.K ⟨w2.G, w1.r, w1.F, w2.H⟩ x (.new c) := ⟨p, ex, ⟨hnr, hnF⟩, hc⟩
              have f3 : FrR w1 x (.new c) := fun c' ec p' ep => fr c' ec p' ep
              exact h1 x ⟨w2.G, w1.r, w1.F, w2.H⟩ (le1.trans le3) r3 o3 (FrR.back le1 le3 o3 f3)
      · rw [if_neg hd] at h1
        exact h1.elim
theorem e_globI {x : Str} {i : Int} {pos : Pos} (h : ∃ t, X.mg x = some (.int i t)) (hg : Gl X x := by rfl) (hb : (x == ("__debug__" : Str)) = false := by decide) : Ex X ec W (.Name x pos) (cC (.int i)) := by
  obtain ⟨t, h⟩ := h
  exact e_glob (v := .int i) h ⟨t, rfl⟩ (fun _ => .int i) hg hb
end
/-! ### the law -/
def spLaw (K : Fg) (f : Fn) (T : List (Addr × Str)) : Sp := fun vs H Q E => (∀ q ∈ T, H q.1 = some (.tbl #[]) ∧ K.lookup q.1 = none) ∧ ∃ (a : Addr) (ns : List Int), vs = [.ref a] ∧ SqL K H a (ns.map V.int) ∧ f [.d (.list (ns.map PyData.int))] [] = .ok (.d (.bool true)) [] ∧ ∀ H', Q (.bl true) H'
theorem spLaw_in {K : Fg} {f : Fn} {H : Hp} {a : Addr} {ns : List Int} (hS : SqL K H a (ns.map V.int)) (h : f [.d (.list (ns.map PyData.int))] [] = .ok (.d (.bool true)) []) : spLaw K f [] [.ref a] H (fun v _ => v = .bl true) fun _ _ _ => False :=
  ⟨(fun q hq => nomatch hq), a, ns, rfl, hS, h, fun _ => rfl⟩
theorem cx_none {P : Program} {w : World} {H : Hp} {s : Shared} {e : Value} {s' : Shared} (h : L2.CX P w [] H s (fun _ _ _ => False) e s') : False := by
  obtain ⟨_, _, _, _, _, _, _, _, _, _, _, _, z⟩ := h
  exact z
/-- the ground at the start: all but the tables -/
def gndT (H : Hp) : Hp := fun b => match H b with
  | some (.tbl _) => none
  | x => x
theorem gndT_no {H : Hp} {b : Addr} {o : HO} (h : H b = some o) (n : NoTb o) : gndT H b = some o := by
  unfold gndT
  rw [h]
  split
  · rename_i ps e
    exact absurd (Option.some.inj e) (n ps)
  · rfl
theorem gndT_t {H : Hp} {b : Addr} {ps : Array Value} (h : H b = some (.tbl ps)) : gndT H b = none := by
  unfold gndT
  rw [h]
theorem gndT_of {H : Hp} {b : Addr} {o : HO} (h : gndT H b = some o) : H b = some o ∧ NoTb o := by
  unfold gndT at h
  split at h
  · cases h
  · rename_i x e
    exact ⟨h, fun ps z => e ps (by rw [h, z])⟩
theorem spLaw_spF {K : Fg} {ec : EC} (hw : ec.w = bot) {f : Fn} {vs : List V} {H : Hp} {Q : VK} {E : XK} (h : spLaw K f ec.T vs H Q E) : spF K ec 1 f vs H Q E := by
  obtain ⟨hT, a, ns, rfl, hS, hf, q⟩ := h
  have hS' : SqL K (gndT H) a (ns.map V.int) := by
    rcases hS with (h | ⟨o, h⟩) | h
    · exact .inl (.inl (gndT_no h noTb_l))
    · exact .inl (.inr ⟨o, gndT_no h fun _ z => by cases z⟩)
    · exact .inr h
  refine ⟨rfl, ⟨gndT H, [], fun b => b ∈ ec.T.map (·.1), H⟩, [], [.d (.list (ns.map PyData.int))], rfl, ⟨fun b u e => (gndT_of e).1, rfl, List.nodup_nil, fun n p c h _ => by simp at h, fun p h => ?_, fun q hq => ?_, ?_, fun b o e => (gndT_of e).2, ⟨fun t q n j ds e1 => by simp at e1, fun p hp => .inl hp⟩⟩, .cons ⟨.ref a, rfl, .lst hS' (rpAll_ints ns)⟩ .nil, ?_⟩
  · obtain ⟨q, hq, e⟩ := List.mem_map.mp h
    exact ⟨by rw [← e]; exact gndT_t (hT q hq).1, by simp, _, by rw [← e]; exact (hT q hq).1⟩
  · exact ⟨List.mem_map.mpr ⟨q, hq, rfl⟩, LamX.TabS.nil (hT q hq).1⟩
  · rw [hw]
    exact Le.bot _
  rw [hf]
  intro x w' _ _ hx _
  have hx : Rp K w'.G x (.bool true) := hx
  cases hx
  exact q _
theorem spLaw_of {P : Program} {wo : World} {K : Fg} {mg : Str → Option Value} {ec : EC} (hw : ec.w = bot) {x : Str} {st : Stmt} {k : Nat} {f : Fn} {fa : Addr} (D : DefF K mg x st ["_law_script"]) (hfa : mg x = some (.ref fa))
    (C : ∀ base : Heap, K.In base → base.Ns mainGlobals mg → Cal P wo K mg base ec x ["_law_script"] f k) :
    ∃ fd : FuncData, (∀ (s : Shared) (v : Value), BindsTo s fd ⟨[v], []⟩ [("_law_script", v)]) ∧ ∀ base : Heap, K.In base → base.Ns mainGlobals mg → FnG P wo K mg base k fa fd ["_law_script"] (spLaw K f ec.T) := by
  obtain ⟨fa', fd, F, hm, hb⟩ := D.ex
  rw [hfa] at hm
  cases hm
  obtain ⟨oc, od, kV, doc, pm, an, cdv, ct, osl, e, lk, _⟩ := F.ex
  refine ⟨fd, fun s v => .of_eq (hb [v] rfl), fun base h1 h2 => ?_⟩
  obtain ⟨fa2, fd2, oc2, od2, osl2, lk2, F2, hm2, _, _⟩ := C base h1 h2
  rw [hfa] at hm2
  cases hm2
  rw [lk] at lk2
  cases lk2
  exact F2.imp fun vs H Q E q => spLaw_spF hw q
/-- the law's call, from the caller's place -/
theorem walkG {l : PySem.W.OpenLaw} {n k : Nat} {q : Program} {loose : List Str} {XP : (Str → Option Value) → Heap → Prop} {YP : World → Heap → Prop} {d : DefRec} {K : Params → PySem.W.Frag} {f : Fn}
    (hn : l.most = some n) (hn2 : n ≤ sizeLine) (hdf : d.params.defaults = []) (hr : Room k callerA) (hY : ∀ (w : World) (h : Heap), YP w h → (K w.params).In h)
    (F : ∀ (w : World) (mg : Str → Option Value) (fa : Addr) (h : Heap), (K w.params).In h → h.Ns mainGlobals mg → mg d.name = some (.ref fa) →
      ∃ fd : FuncData, (∀ (s : Shared) (u : Value), BindsTo s fd ⟨[u], []⟩ [("_law_script", u)]) ∧ ∀ base : Heap, (K w.params).In base → base.Ns mainGlobals mg → FnG l.prog w (K w.params) mg base k fa fd ["_law_script"] (spLaw (K w.params) f []))
    (hf : ∀ ns : List Int, ns.length ≤ n → f [.d (.list (ns.map PyData.int))] [] = .ok (.d (.bool true)) []) : PySem.W.WalkO q loose XP YP l.row.toRowW d [] (fun g vs => PySem.call g vs) := by
  refine Att.attach_call hn hdf fun w s₀ s₁ mg mb fa o pm cd doc a vs ns G Y _ _ _ hmg hobj hints hlen hg => ?_
  have KX := hY w _ Y
  obtain ⟨fd, hb, FF⟩ := F w mg fa _ KX G.T.g hmg
  have T := G.T
  have rv := vals_ints hints
  have lz := hints.length
  have l16 := Nat.le_trans hlen hn2
  have main : ∀ H : Hp, Only H → SqL (K w.params) H a (ns.map V.int) → HOk l.prog w H s₁.heap → (∀ b, H b ≠ none → b = a) → (H a ≠ none → (K w.params).lookup a = none) →
      codeAny (model l.prog w) callerA (.call (.ref fa) ⟨[.ref a], []⟩) (fun r s' => r = .ok (.ret (.bool true)) ∧ OldK s₁.heap s'.heap ∧ s'.os = s₁.os ∧ AllBare s'.gens) s₁ := by
    intro H only seq ok1 own1 own2
    have hid : ∀ {b : Addr} {o : Obj}, s₁.heap.get? b = some o → H b = none → (hidT s₁.heap H).get? b = some o := fun e z => hidT_get e z
    have dic : ∀ {b : Addr} {o : Obj} {es : Array DictEntry} {ep : Nat}, s₁.heap.get? b = some o → o.data = .dict es ep → H b = none := fun {b o es ep} e dd => by
      rcases z : H b with _ | u
      · rfl
      · have eb : b = a := own1 b (by rw [z]; simp)
        subst eb
        rw [hobj] at e
        cases e
        exact nomatch (show Data.seq vs.toArray _ = Data.dict es ep from dd)
    have nsT : ∀ {b : Addr} {mm : Str → Option Value}, s₁.heap.Ns b mm → (hidT s₁.heap H).Ns b mm := fun {b mm} ⟨o, es, ep, e, dd, r⟩ => ⟨o, es, ep, hid e (dic e dd), dd, r⟩
    have inB : (K w.params).In (hidT s₁.heap H) := fun b o e => hid (KX b o e) (by
      rcases z : H b with _ | u
      · rfl
      · have eb : b = a := own1 b (by rw [z]; simp)
        subst eb
        rw [own2 (by rw [z]; simp)] at e
        cases e)
    have md : Mod (K w.params) mg (hidT s₁.heap H) := ⟨inB, nsT T.g, ⟨mb, nsT T.b, T.builtins⟩, let ⟨mc, z1, z2⟩ := T.nolimit; ⟨mc, nsT z1, z2⟩⟩
    have e0 : Env0 l.prog w (K w.params) mg (hidT s₁.heap H) callerA [] s₁ H := ⟨rfl, md, fun b o e => of_hidT e, Nat.le_of_eq (hidT_size _ _), trivial, fun b z => absurd (show b ∈ ([] : List Addr) from z) (by simp), ok1, .of_eq hg⟩
    refine codeAny_mono ((FF _ inB (nsT T.g)).go (us := [.ref a]) (vs := [.ref a]) ⟨hr, rfl⟩ e0 (hb s₁ (.ref a)) (.cons rfl .nil) (spLaw_in seq (hf ns hlen))) fun r s2 z => ?_
    rcases r with e | fl
    · exact (cx_none z).elim
    cases fl with
    | next => exact z.elim
    | brk => exact z.elim
    | cont => exact z.elim
    | ret u =>
      obtain ⟨v, H2, os, bare, un, ok2, rv2, ve⟩ := z
      have ve : v = .bl true := ve
      subst ve
      obtain rfl : u = Value.bool true := rv2
      refine ⟨rfl, OldK.of_keep fun b o e => ?_, os, bare⟩
      rcases z : H b with _ | u
      · exact un.keep b o e z (by intro zz; exact absurd (show b ∈ ([] : List Addr) from zz) (by simp)) (by simp)
      · rcases only b with y | ⟨ob, xs, y⟩
        · rw [z] at y
          cases y
        · obtain ⟨e1, _⟩ := ok1 b _ y
          obtain ⟨e2, _⟩ := ok2 b _ (un.frzs b ob _ y)
          rw [e] at e1
          cases e1
          exact e2
  rcases lk : (K w.params).lookup a with _ | o1
  · refine main (fun b => if b = a then some (.frz { cls := .type "list", data := .seq vs.toArray } (.lst (ns.map V.int))) else none) (fun b => ?_) (.inl (.inr ⟨{ cls := .type "list", data := .seq vs.toArray }, if_pos rfl⟩)) (fun b u z => ?_) (fun b z => ?_) fun _ => lk
    · by_cases e : b = a
      · exact .inr ⟨_, _, if_pos e⟩
      · exact .inl (if_neg e)
    · by_cases e : b = a
      · have z := (if_pos e).symm.trans z
        cases z
        subst e
        exact ⟨hobj, by rw [List.length_map]; exact l16, vs, _, rv, hobj⟩
      · exact nomatch (if_neg e).symm.trans z
    · by_cases e : b = a
      · exact e
      · exact absurd (if_neg e) z
  · have e := KX a o1 lk
    rw [hobj] at e
    cases e
    exact main (fun _ => none) (fun _ => .inl rfl) (.inr ⟨_, vs.toArray, _, lk, rfl, rfl, rfl, by rw [List.size_toArray, lz]; exact l16, by simpa using rv⟩) (fun b u z => nomatch (show (none : Option HO) = some u from z)) (fun b z => absurd rfl z) fun z => absurd rfl z
/-! ### exceptions by name -/
def ecOf (mg : Str → Option Value) (T : List (Addr × Str) := []) (L : List String := []) : EC := ⟨fun n => match mg (Str.ofString n) with
  | some (.ref a) => a
  | _ => 0, T, L, bot, 0⟩
theorem exc_g {mg : Str → Option Value} {T : List (Addr × Str)} {L : List String} {n : String} {a : Addr} (h : mg (Str.ofString n) = some (.ref a)) : mg (Str.ofString n) = some (.ref ((ecOf mg T L).f n)) := by
  show mg (Str.ofString n) = some (.ref (match mg (Str.ofString n) with
    | some (.ref a) => a
    | _ => 0))
  rw [h]
theorem exc_e {mg : Str → Option Value} {T : List (Addr × Str)} {L : List String} {n : String} {a : Addr} {P : Addr → Prop} (h : mg (Str.ofString n) = some (.ref a)) (q : P a) : P ((ecOf mg T L).f n) := by
  show P (match mg (Str.ofString n) with
    | some (.ref a) => a
    | _ => 0)
  rw [h]
  exact q
section
variable {X : Cx} {ec : EC} {W : WX}
/-! ### times: ints, a list or a tuple so many times -/
theorem op_repV : OpR X (binaryOp .Mult) (rRepV X.K) := by
  intro pins s σ H x y v u Q I rx ry h
  obtain ⟨l, k, xs, rfl, rfl, hH, h1, h2, hz, q⟩ := h
  cases rx
  obtain ⟨t, rfl⟩ := ry
  obtain ⟨its, r, p, z⟩ := I.list hH
  obtain ⟨⟨cls, dd, data, sl⟩, n, e, hc, hd, hs⟩ := p
  dsimp only at hc hd hs
  subst hc
  subst hd
  subst hs
  have hl : xs.length = its.length := r.length
  have hlen : its.toArray.size * k.toNat ≤ sizeLine := by rw [List.size_toArray, ← hl]; exact hz
  have hcap : ¬ its.toArray.size * k.toNat > (2 ^ 63 - 1) / 8 := by
    have : (sizeLine : Nat) ≤ (2 ^ 63 - 1) / 8 := by decide
    omega
  have hfit : ¬ (!Builtin.List.listFitsIndex k) = true := by
    rw [fitsIndex_both h1 h2]
    exact Bool.false_ne_true
  have hlong : ¬ Builtin.List.listTooLong (its.toArray.size * k.toNat) = true := by
    rw [notLongL hlen]
    exact Bool.false_ne_true
  have hnew : List.foldl (fun x1 x2 => x1 ++ x2) #[] (List.replicate (if its.toArray.isEmpty = true then 0 else k.toNat) its.toArray) = (List.replicate k.toNat its).flatten.toArray := by
    have f0 : ∀ m : Nat, List.foldl (fun x1 x2 => x1 ++ x2) #[] (List.replicate m its.toArray) = (List.replicate m its).flatten.toArray := fun m => by
      have := foldl_rep its m []
      rw [List.nil_append] at this
      exact this
    rw [f0]
    cases its with
    | nil => simp
    | cons a r' => rw [if_neg (by simp)]
  refine wpAny_binaryOp_repeat_ref (T := "list") (U := "int") (by decide) ⟨_, e, rfl⟩ (fun s' => typeIs_int s' k t) noFill_list_mul F.fills_int_mul F.slot_int_rmul repeat_list F.slot_int_index.lookup
    (call_meets F.slot_int_rmul (typeIs_int s k t) F.entry_int_rmul (F.args_int_rmul_2 _ _) (lm_int_rmul_list_any k t l its.toArray n _ _)
      ⟨e, rfl, ⟨_, e, rfl⟩, call_meets F.slot_list_mul ⟨_, e, rfl⟩ F.entry_list_mul (F.args_list_mul_2 _ _) (lm_list_mul_any l its.toArray n _ _ k t hfit hcap hlong) ⟨e, ?_⟩⟩)
  rw [hnew]
  exact ⟨.ref _, _, I.lnew (t' := s.toks) (r.rep k.toNat) (by rw [PyProof.Rows.lm_len_rep_flat, Nat.mul_comm]; rw [List.size_toArray] at hlen; omega), rfl, q _ I.fresh⟩
theorem tuple_mul1 (l : Addr) (items : Array Value) (n : Nat) (dd : Option Addr) (sl : Array (Option Value)) (x : Int) (u : Tok) (c0 : (decide (x < -(2 ^ 63)) || decide (x ≥ 2 ^ 63)) = false) (c1 : (items.isEmpty || x == 1) = true) :
    Meets (Builtin.«tuple.__mul__» ⟨[.ref l, .int x u], []⟩) (fun _ R s => s.heap.get? l = some { cls := .type "tuple", dict := dd, data := .seq items n, slots := sl } ∧ R (.ok (.ret (Value.ref l))) s) :=
  .of_wp fun prog w A R s h => by
    obtain ⟨hp, g, d, tk, os⟩ := s
    obtain ⟨hl, h⟩ := h
    have f1 := AutoSeq1.idx_int
    wp_walk using wpAny_loadPart' hl
    repeat (first
      | (refine wpAny_ite_false (decide_eq_false (by rw [c0]; exact Bool.false_ne_true)) ?_; wp_walk using wpAny_loadPart' hl)
      | (refine wpAny_ite_true (decide_eq_true c1) ?_; wp_walk using wpAny_loadPart' hl))
    exact ⟨_, rfl, h⟩
def rRepT1 (K : Fg) : R2 := fun x y H Q => ∃ l xs, x = .ref l ∧ y = .int 1 ∧ SqT K H l xs ∧ Q (.ref l) H
theorem op_repT1 : OpR X (binaryOp .Mult) (rRepT1 X.K) := by
  intro pins s σ H x y v u Q I rx ry h
  obtain ⟨l, xs, rfl, rfl, hT, q⟩ := h
  cases rx
  obtain ⟨t, rfl⟩ := ry
  obtain ⟨its, r, ⟨⟨cls, dd, data, sl⟩, ho, hc, n, hd⟩, hs⟩ := I.tuple hT
  simp only at hc hd
  subst hc hd
  refine wpAny_binaryOp_repeat_ref (T := "tuple") (U := "int") (by decide) ⟨_, ho, rfl⟩ (fun s' => typeIs_int s' 1 t) noFill_tuple_mul F.fills_int_mul F.slot_int_rmul repeat_tuple F.slot_int_index.lookup
    (call_meets F.slot_int_rmul (typeIs_int s 1 t) F.entry_int_rmul (F.args_int_rmul_2 _ _) (int_rmul_tuple 1 t l its.toArray n dd sl)
      ⟨ho, rfl, ⟨_, ho, rfl⟩, call_meets F.slot_tuple_mul ⟨_, ho, rfl⟩ F.entry_tuple_mul (F.args_tuple_mul_2 _ _) (tuple_mul1 l its.toArray n dd sl 1 t (by decide) (by simp)) ⟨ho, ?_⟩⟩)
  exact ⟨.ref l, _, I.kept (t' := s.toks) (fun _ _ e => e), rfl, q⟩
theorem tuple_mul0 (l : Addr) (items : Array Value) (n : Nat) (dd : Option Addr) (sl : Array (Option Value)) (x : Int) (u : Tok) (c0 : (decide (x < -(2 ^ 63)) || decide (x ≥ 2 ^ 63)) = false) (c1 : (items.isEmpty || x == 1) = false) (c2 : (decide (x ≤ 0) || items.isEmpty) = true) :
    Meets (Builtin.«tuple.__mul__» ⟨[.ref l, .int x u], []⟩) (fun _ R s => s.heap.get? l = some { cls := .type "tuple", dict := dd, data := .seq items n, slots := sl } ∧
      R (.ok (.ret (Value.ref s.heap.objs.size))) { s with heap := s.heap.push { cls := Value.type "tuple", data := Data.seq #[] }, toks := s.toks }) :=
  .of_wp fun prog w A R s h => by
    obtain ⟨hp, g, d, tk, os⟩ := s
    obtain ⟨hl, h⟩ := h
    have f1 := AutoSeq1.idx_int
    wp_walk using wpAny_loadPart' hl
    repeat (first
      | (refine wpAny_ite_false (decide_eq_false (by rw [c0]; exact Bool.false_ne_true)) ?_; wp_walk using wpAny_loadPart' hl)
      | (refine wpAny_ite_false (decide_eq_false (by rw [c1]; exact Bool.false_ne_true)) ?_; wp_walk using wpAny_loadPart' hl)
      | (refine wpAny_ite_true (decide_eq_true c2) ?_; wp_walk using wpAny_loadPart' hl))
    exact ⟨_, rfl, h⟩
def rRepT0 (K : Fg) : R2 := fun x y H Q => ∃ l k xs, x = .ref l ∧ y = .int k ∧ SqT K H l xs ∧ xs ≠ [] ∧ k ≤ 0 ∧ -1000 ≤ k ∧ ∀ p, H p = none → Q (.ref p) (upd H p (.tup []))
theorem op_repT0 : OpR X (binaryOp .Mult) (rRepT0 X.K) := by
  intro pins s σ H x y v u Q I rx ry h
  obtain ⟨l, k, xs, rfl, rfl, hT, hne, h1, h2, q⟩ := h
  cases rx
  obtain ⟨t, rfl⟩ := ry
  obtain ⟨its, r, ⟨⟨cls, dd, data, sl⟩, ho, hc, n, hd⟩, hs⟩ := I.tuple hT
  simp only at hc hd
  subst hc hd
  have hle : its.length = xs.length := r.length.symm
  have hn : its ≠ [] := fun e => hne (by
    rw [e] at hle
    exact List.eq_nil_of_length_eq_zero hle.symm)
  have hi : its.toArray.isEmpty = false := by
    cases its with
    | nil => exact absurd rfl hn
    | cons a b => rfl
  have c0 : (decide (k < -(2 ^ 63)) || decide (k ≥ 2 ^ 63)) = false := by
    rw [decide_eq_false (by omega), decide_eq_false (by omega)] <;> rfl
  have c1 : (its.toArray.isEmpty || k == 1) = false := by
    rw [hi, Bool.false_or]
    exact beq_eq_false_iff_ne.mpr (by omega)
  have c2 : (decide (k ≤ 0) || its.toArray.isEmpty) = true := by
    rw [decide_eq_true h1, Bool.true_or]
  refine wpAny_binaryOp_repeat_ref (T := "tuple") (U := "int") (by decide) ⟨_, ho, rfl⟩ (fun s' => typeIs_int s' k t) noFill_tuple_mul F.fills_int_mul F.slot_int_rmul repeat_tuple F.slot_int_index.lookup
    (call_meets F.slot_int_rmul (typeIs_int s k t) F.entry_int_rmul (F.args_int_rmul_2 _ _) (int_rmul_tuple k t l its.toArray n dd sl)
      ⟨ho, rfl, ⟨_, ho, rfl⟩, call_meets F.slot_tuple_mul ⟨_, ho, rfl⟩ F.entry_tuple_mul (F.args_tuple_mul_2 _ _) (tuple_mul0 l its.toArray n dd sl k t c0 c1 c2) ⟨ho, ?_⟩⟩)
  refine ⟨.ref s.heap.objs.size, _, I.laid (t' := s.toks) (o := .tup []) (fun b ob q => Heap.get?_push_of_some _ q) (Nat.le_refl _) ?_, rfl, q _ (I.hok.fresh (Nat.le_refl _))⟩
  exact ⟨Nat.zero_le _, _, .nil, IsTup.new _ _⟩
def rMulV (K : Fg) : R2 := fun x y H Q => (rI (fun i j => mulOk i j = true) (fun i j => .int (i * j))) x y H Q ∨ rRepV K x y H Q ∨ rRepT K x y H Q ∨ rRepT1 K x y H Q ∨ rRepT0 K x y H Q
theorem or_mul : OpR X (binaryOp .Mult) (rMulV X.K) := OpR.or op_mulV (OpR.or op_repV (OpR.or op_repT (OpR.or op_repT1 op_repT0)))
def opMulV : Od → Od → Option Rv
  | .d (.int i), .d (.int j) => if mulOk i j = true then some (.d (.int (i * j))) else none
  | .d (.list ds), .d (.int k) => if decide (k < 2 ^ 63) && decide (-(2 ^ 63) ≤ k) && decide (ds.length * k.toNat ≤ 16000000) then some (.new (.l (List.replicate k.toNat ds).flatten)) else none
  | .d (.tuple ds), .d (.int k) => if k = 1 then some (.d (.tuple ds)) else if !ds.isEmpty && decide (2 ≤ k) && decide (k ≤ 1000) && decide (ds.length ≤ 1000) then some (.d (.tuple (List.replicate k.toNat ds).flatten)) else if !ds.isEmpty && decide (k ≤ 0) && decide (-1000 ≤ k) then some (.d (.tuple [])) else none
  | _, _ => none
theorem rp_rep {K : Fg} {H : Hp} {vs : List V} {ds : List D} (r : RpAll K H vs ds) : ∀ n, RpAll K H (List.replicate n vs).flatten (List.replicate n ds).flatten
  | 0 => .nil
  | n + 1 => by
    rw [List.replicate_succ, List.flatten_cons, List.replicate_succ, List.flatten_cons]
    exact r.append (rp_rep r n)
theorem s_mulV {K : Fg} : Op2S K (rMulV K) opMulV := by
  intro w x y o o' rv Q hx h h' e q
  unfold opMulV at e
  split at e
  · split at e
    · rename_i hm
      cases e
      exact .inl ⟨_, _, h.int, h'.int, hm, post_int q⟩
    · cases e
  · split at e
    · rename_i ds k hc
      cases e
      simp only [Bool.and_eq_true, decide_eq_true_eq] at hc
      obtain ⟨p, vs, rfl, hl, r⟩ := h.list hx
      refine .inr (.inl ⟨p, k, vs, rfl, h'.int, hl, hc.1.2, hc.1.1, sz16 (by rw [r.length]; exact hc.2), fun a ha => post_lst q (rp_rep r _) ha hx⟩)
    · cases e
  · split at e
    · rename_i ds k hk
      subst hk
      cases e
      obtain ⟨p, vs, rfl, hg, r⟩ := h.tup
      exact .inr (.inr (.inr (.inl ⟨p, vs, rfl, h'.int, .inl (.inl (hx _ _ hg)), post_d q (.tup hg r)⟩)))
    · split at e
      · rename_i ds k hk hc
        cases e
        simp only [Bool.and_eq_true, decide_eq_true_eq, Bool.not_eq_true', List.isEmpty_eq_false_iff] at hc
        obtain ⟨p, vs, rfl, hg, r⟩ := h.tup
        refine .inr (.inr (.inl ⟨p, k, vs, rfl, h'.int, .inl (.inl (hx _ _ hg)), fun e => hc.1.1.1 ?_, hc.1.1.2, hc.1.2, by rw [r.length]; exact hc.2, fun a ha => post_tup q (rp_rep r _) ha hx⟩))
        subst e
        cases r
        rfl
      · split at e
        · rename_i ds k hk hc2 hc
          cases e
          simp only [Bool.and_eq_true, decide_eq_true_eq, Bool.not_eq_true', List.isEmpty_eq_false_iff] at hc
          obtain ⟨p, vs, rfl, hg, r⟩ := h.tup
          refine .inr (.inr (.inr (.inr ⟨p, k, vs, rfl, h'.int, .inl (.inl (hx _ _ hg)), fun e => hc.1.1 ?_, hc.1.2, hc.2, fun a ha => post_tup q .nil ha hx⟩)))
          subst e
          cases r
          rfl
        · cases e
  · cases e
/-! ### methods of a list -/
theorem list_extendV (l : Addr) (items : Array Value) (n : Nat) (b : Addr) (items2 : Array Value) (n2 : Nat) (sl : Array (Option Value)) (hc0 : ¬(!items.isEmpty && Builtin.List.listTooLong (items.size + items2.size)) = true) (hc1 : items.size ≤ sizeLine) (hs2 : items.size + items2.size ≤ sizeLine + 1) :
    Meets (Builtin.«list.extend» ⟨[.ref l, .ref b], []⟩) (fun _ R s => s.heap.get? l = some { cls := .type "list", dict := none, data := .seq items n, slots := #[] } ∧ s.heap.get? b = some { cls := .type "list", dict := none, data := .seq items2 n2, slots := sl } ∧ R (.ok (.ret Value.none)) { s with heap := s.heap.update l (Obj.mapSeq fun x => x ++ items2), toks := s.toks }) :=
  .of_wp fun prog w A R s h => by
    obtain ⟨hp, g, d, tk, os⟩ := s; obtain ⟨hl, hb, h⟩ := h; have f1 := AutoSeq1.idx_int; have f2 := AutoSeq1.sub_tuple_tuple; have f3 := AutoSeq1.sub_list_list; have f4 := AutoSeq1.sub_tuple_list; have f5 := AutoSeq1.sub_list_tuple;
    have hz' : (items ++ items2).size ≤ sizeLine + 1 := by rw [Array.size_append]; exact hs2
    wp_walk using (wpAny_updateSeq hl rfl (hz := hc1) (_hz' := hz')), wpAny_loadPart' hl, wpAny_loadPart' hb; exact ⟨_, rfl, h⟩
def rExtendV (K : Fg) : V → List V → Hp → VK → Prop := fun x vs H Q => ∃ l b xs zs, x = .ref l ∧ vs = [.ref b] ∧ H l = some (.lst xs) ∧ SqL K H b zs ∧ xs.length + zs.length ≤ sizeLine ∧ Q .non (upd H l (.lst (xs ++ zs)))
theorem mt_extendV : MtR X "list.extend" (rExtendV X.K) := by
  intro pins s σ H x vs v us Q I rx rv h
  obtain ⟨l, b, xs, zs, rfl, rfl, hH, hB, hz, q⟩ := h
  cases rx
  obtain ⟨u, rfl, ru⟩ := rv.one
  cases ru
  obtain ⟨z, its, n, r, hl, e⟩ := I.lstM hH
  obtain ⟨its2, r2, p2, z2⟩ := I.list hB
  obtain ⟨⟨cls, dd, data, sl⟩, n2, e2, hc, hd, hs⟩ := p2
  dsimp only at hc hd hs
  subst hc
  subst hd
  subst hs
  have hl2 : zs.length = its2.length := r2.length
  have hsz : its.toArray.size + its2.toArray.size ≤ sizeLine := by rw [List.size_toArray, List.size_toArray]; omega
  have hlong : ¬ (!its.toArray.isEmpty && Builtin.List.listTooLong (its.toArray.size + its2.toArray.size)) = true := by
    rw [notLongL hsz, Bool.and_false]
    exact Bool.false_ne_true
  refine call_meets F.slot_list_extend ⟨_, e, rfl⟩ F.entry_list_extend (F.args_list_extend_2 _ _)
    (list_extendV l its.toArray n b its2.toArray n2 sl hlong (by rw [List.size_toArray]; omega) (by omega)) ⟨e, e2, ?_⟩
  refine ⟨.non, _, I.lset (its' := its ++ its2) hH e (by simp) (r.append r2) ?_, rfl, q⟩
  rw [List.length_append]
  omega
theorem m_extend {K : Fg} : MutS K (rExtendV K) fExt := by
  intro w p vs xs us ds d ys Q hx hg hv rx ru e q
  unfold fExt at e
  split at e
  · split at e
    · rename_i zs hc
      cases e
      cases ru with
      | cons r t =>
        cases t
        cases r with
        | lst hs ha =>
          exact ⟨p, _, vs, _, rfl, rfl, hv, hx.seq hs, sz16 (by rw [rx.length, ha.length]; exact hc), q _ _ .non (rx.append ha)⟩
    · cases e
  · cases e
section
variable {o e : Expr} {es : List Expr} {apos cpos : Pos} {co : CE} {ca : CA}
theorem e_append (ho : Ex X ec W o co) (ha : PA X (e :: es) (rdA X.K ec W ca)) (hbase : attributeBase o "append" X.env (eval o X.env) = eval o X.env := by rfl)
    (hfew : ((backTo cpos (starEach (e :: es) X.env)).all (fun x => !x.1) && (backToKw cpos (keywordEach [] X.env)).all (fun x => x.1.isSome) && decide ((e :: es).length + ([] : List Keyword).length + (if ([] : List Keyword).isEmpty then 0 else 1) < 30)) = true := by rfl)
    (hline : (apos.endLine == cpos.line) = true := by rfl) (hs : starEach (e :: es) X.env = (false, eval e X.env) :: starEach es X.env := by rfl) (hplain : (backTo cpos (starEach es X.env)).any (·.1) = false := by rfl) :
    Ex X ec W (.Call (.Attribute o "append" apos) (e :: es) [] cpos) (cMut fApp co ca) :=
  e_mut m_append mt_append F.slot_list_append F.type_list_append ho ha fun h1 h2 => pe_bm F.plainAttrs_list F.slot_list_append F.type_list_append mt_append h1 h2 hbase hfew hline hs hplain
theorem e_extend (ho : Ex X ec W o co) (ha : PA X (e :: es) (rdA X.K ec W ca)) (hbase : attributeBase o "extend" X.env (eval o X.env) = eval o X.env := by rfl)
    (hfew : ((backTo cpos (starEach (e :: es) X.env)).all (fun x => !x.1) && (backToKw cpos (keywordEach [] X.env)).all (fun x => x.1.isSome) && decide ((e :: es).length + ([] : List Keyword).length + (if ([] : List Keyword).isEmpty then 0 else 1) < 30)) = true := by rfl)
    (hline : (apos.endLine == cpos.line) = true := by rfl) (hs : starEach (e :: es) X.env = (false, eval e X.env) :: starEach es X.env := by rfl) (hplain : (backTo cpos (starEach es X.env)).any (·.1) = false := by rfl) :
    Ex X ec W (.Call (.Attribute o "extend" apos) (e :: es) [] cpos) (cMut fExt co ca) :=
  e_mut m_extend mt_extendV F.slot_list_extend F.type_list_extend ho ha fun h1 h2 => pe_bm F.plainAttrs_list F.slot_list_extend F.type_list_extend mt_extendV h1 h2 hbase hfew hline hs hplain
end
end
end Vm
namespace Vm
open PySem L2
/-! ### runs step by step, for simp -/
def frz : Rv → S → R Rv
  | .d x, s => .ok (.d x) s
  | .ref n, s => .ok (.ref n) s
  | .t b es, s => .ok (.t b es) s
  | .new (.l ds), s => .ok (.d (.list ds)) s
  | .new (.k kvs), s => .ok (.d (.dict (kvs.map fun p => (kD p.1, p.2)))) s
  | .new _, _ => .bad
@[simp] theorem frz_d {x : D} {s : S} : frz (.d x) s = .ok (.d x) s := Eq.trans rfl rfl
@[simp] theorem frz_t {b : Bool} {es : List El} {s : S} : frz (.t b es) s = .ok (.t b es) s := Eq.trans rfl rfl
@[simp] theorem frz_ref {n : Nat} {s : S} : frz (.ref n) s = .ok (.ref n) s := Eq.trans rfl rfl
@[simp] theorem frz_l {ds : List D} {s : S} : frz (.new (.l ds)) s = .ok (.d (.list ds)) s := Eq.trans rfl rfl
@[simp] theorem frz_k {kvs : List (L2.Key × D)} {s : S} : frz (.new (.k kvs)) s = .ok (.d (.dict (kvs.map fun p => (kD p.1, p.2)))) s := Eq.trans rfl rfl
section
variable {α β : Type}
@[simp] theorem bind_ok {a : α} {s : S} {k : α → S → R β} : (R.ok a s).bind k = k a s := Eq.trans rfl rfl
@[simp] theorem bind_ex {e : String} {s : S} {k : α → S → R β} : (R.ex e s).bind k = .ex e s := Eq.trans rfl rfl
@[simp] theorem out_ok {a : α} {s : S} {k : α → S → Out} : (R.ok a s).out k = k a s := Eq.trans rfl rfl
@[simp] theorem out_ex {e : String} {s : S} {k : α → S → Out} : (R.ex e s : R α).out k = .ex e s := Eq.trans rfl rfl
@[simp] theorem opt_some {a : α} {k : α → R β} : opt (some a) k = k a := Eq.trans rfl rfl
end
@[simp] theorem cv_s {c : CE} {s : S} : cv c s = (c s).bind frz := by
  unfold cv
  congr 1
  funext rv s1
  cases rv with
  | d x => rfl
  | t b es => rfl
  | ref n => rfl
  | new c => cases c <;> rfl
def slR : Option Sl → S → R Rv
  | some (.d x), s => .ok (.d x) s
  | some (.c n), s => .ok (.ref n) s
  | some (.t b es), s => .ok (.t b es) s
  | _, _ => .bad
@[simp] theorem slR_t {b : Bool} {es : List El} {s : S} : slR (some (.t b es)) s = .ok (.t b es) s := Eq.trans rfl rfl
@[simp] theorem slR_d {x : D} {s : S} : slR (some (.d x)) s = .ok (.d x) s := Eq.trans rfl rfl
@[simp] theorem slR_c {n : Nat} {s : S} : slR (some (.c n)) s = .ok (.ref n) s := Eq.trans rfl rfl
@[simp] theorem cVar_r {i : Nat} {s : S} : cVar i s = slR s.v[i]? s := by
  unfold cVar
  generalize s.v[i]? = o
  rcases o with _ | (_ | _ | _) <;> rfl
@[simp] theorem cC_s {d : D} {s : S} : cC d s = .ok (.d d) s := Eq.trans rfl rfl
def odC : Option Cell → Option Od
  | some (.l ds) => some (.d (.list ds))
  | some (.k kvs) => some (.c (.k kvs))
  | some (.t kvs) => some (.c (.t kvs))
  | some (.r ks) => some (.c (.r ks))
  | some (.g x) => some (.c (.g x))
  | _ => none
@[simp] theorem odC_l {ds : List D} : odC (some (.l ds)) = some (.d (.list ds)) := Eq.trans rfl rfl
@[simp] theorem odC_k {kvs : List (L2.Key × D)} : odC (some (.k kvs)) = some (.c (.k kvs)) := Eq.trans rfl rfl
@[simp] theorem odC_t {kvs : List (List L2.Key × D)} : odC (some (.t kvs)) = some (.c (.t kvs)) := Eq.trans rfl rfl
@[simp] theorem odC_r {ks : List (List L2.Key)} : odC (some (.r ks)) = some (.c (.r ks)) := Eq.trans rfl rfl
@[simp] theorem od_d {x : D} {m : List Cell} : (Rv.d x).od m = some (.d x) := Eq.trans rfl rfl
@[simp] theorem od_ref {n : Nat} {m : List Cell} : (Rv.ref n).od m = odC m[n]? := by
  unfold Rv.od
  dsimp only
  generalize m[n]? = o
  rcases o with _ | (_ | _ | _ | _ | _ | _) <;> rfl
/-! what comes behind has a name: simp stays out of it -/
def rvK : Option Rv → S → R Rv
  | some rv, s => .ok rv s
  | none, _ => .bad
@[simp] theorem rvK_s {rv : Rv} {s : S} : rvK (some rv) s = .ok rv s := Eq.trans rfl rfl
theorem opt_rv {o : Option Rv} {s : S} : (opt o fun rv => .ok rv s) = rvK o s := by cases o <;> rfl
def odK1 (f : Od → Option Rv) : Option Od → S → R Rv
  | some o, s => rvK (f o) s
  | none, _ => .bad
@[simp] theorem odK1_s {f : Od → Option Rv} {o : Od} {s : S} : odK1 f (some o) s = rvK (f o) s := Eq.trans rfl rfl
def kOp1 (f : Od → Option Rv) (x : Rv) (s1 : S) : R Rv := odK1 f (x.od s1.m) s1
@[simp] theorem kOp1_s {f : Od → Option Rv} {x : Rv} {s1 : S} : kOp1 f x s1 = odK1 f (x.od s1.m) s1 := Eq.trans rfl rfl
@[simp] theorem cOp1_s {f : Od → Option Rv} {a : CE} {s : S} : cOp1 f a s = (cv a s).bind (kOp1 f) := by
  unfold cOp1
  congr 1
  funext x s1
  rw [kOp1_s]
  cases x.od s1.m with
  | none => rfl
  | some o => exact opt_rv
def odK2 (f : Od → Od → Option Rv) : Option Od → Option Od → S → R Rv
  | some o, some o', s => rvK (f o o') s
  | _, _, _ => .bad
@[simp] theorem odK2_s {f : Od → Od → Option Rv} {o o' : Od} {s : S} : odK2 f (some o) (some o') s = rvK (f o o') s := Eq.trans rfl rfl
def kOp2b (f : Od → Od → Option Rv) (x y : Rv) (s2 : S) : R Rv := odK2 f (x.od s2.m) (y.od s2.m) s2
@[simp] theorem kOp2b_s {f : Od → Od → Option Rv} {x y : Rv} {s2 : S} : kOp2b f x y s2 = odK2 f (x.od s2.m) (y.od s2.m) s2 := Eq.trans rfl rfl
def kOp2 (f : Od → Od → Option Rv) (b : CE) (x : Rv) (s1 : S) : R Rv := (cv b s1).bind (kOp2b f x)
@[simp] theorem kOp2_s {f : Od → Od → Option Rv} {b : CE} {x : Rv} {s1 : S} : kOp2 f b x s1 = (cv b s1).bind (kOp2b f x) := Eq.trans rfl rfl
theorem opt_od2 {f : Od → Od → Option Rv} {a b : Option Od} {s : S} : (opt a fun o => opt b fun o' => opt (f o o') fun rv => .ok rv s) = odK2 f a b s := by
  cases a with
  | none => rfl
  | some o =>
    cases b with
    | none => rfl
    | some o' => exact opt_rv
@[simp] theorem cOp2_s {f : Od → Od → Option Rv} {a b : CE} {s : S} : cOp2 f a b s = (cv a s).bind (kOp2 f b) := by
  unfold cOp2
  congr 1
  funext x s1
  rw [kOp2_s]
  congr 1
  funext y s2
  exact opt_od2
@[simp] theorem cOp2r_s {f : Od → Od → Option Rv} {a b : CE} {s : S} : cOp2r f a b s = cOp2 (fun o o' => f o' o) a b s := Eq.trans rfl rfl
def boolR : Rv → S → R Bool
  | .d (.bool b), s => .ok b s
  | _, _ => .bad
@[simp] theorem boolR_b {b : Bool} {s : S} : boolR (.d (.bool b)) s = .ok b s := Eq.trans rfl rfl
@[simp] theorem cB_s {c : CE} {s : S} : cB c s = (cv c s).bind boolR := by
  unfold cB
  congr 1
  funext a s1
  rcases a with (_ | _ | _ | _ | _ | _ | _) | _ | _ <;> rfl
def bK : Option Bool → S → R Bool
  | some b, s => .ok b s
  | none, _ => .bad
@[simp] theorem bK_s {b : Bool} {s : S} : bK (some b) s = .ok b s := Eq.trans rfl rfl
def truK : Option Od → S → R Bool
  | some o, s => bK (truthy o) s
  | none, _ => .bad
@[simp] theorem truK_s {o : Od} {s : S} : truK (some o) s = bK (truthy o) s := Eq.trans rfl rfl
def kTru (a : Rv) (s1 : S) : R Bool := truK (a.od s1.m) s1
@[simp] theorem kTru_s {a : Rv} {s1 : S} : kTru a s1 = truK (a.od s1.m) s1 := Eq.trans rfl rfl
@[simp] theorem cTru_s {c : CE} {s : S} : cTru c s = (cv c s).bind kTru := by
  unfold cTru
  congr 1
  funext a s1
  rw [kTru_s]
  cases a.od s1.m with
  | none => rfl
  | some o =>
    show (opt (truthy o) fun b => R.ok b s1) = bK (truthy o) s1
    cases truthy o <;> rfl
@[simp] theorem truthy_b {b : Bool} : truthy (.d (.bool b)) = some b := Eq.trans rfl rfl
@[simp] theorem truthy_i {i : Int} : truthy (.d (.int i)) = some (i != 0) := Eq.trans rfl rfl
@[simp] theorem truthy_l {ds : List D} : truthy (.d (.list ds)) = some (!ds.isEmpty) := Eq.trans rfl rfl
@[simp] theorem truthy_t {ds : List D} : truthy (.d (.tuple ds)) = some (!ds.isEmpty) := Eq.trans rfl rfl
@[simp] theorem truthy_n : truthy (.d .none) = some false := Eq.trans rfl rfl
def kAndT (b : CT) (x : Bool) (s1 : S) : R Bool := if x = true then b s1 else .ok false s1
@[simp] theorem kAndT_s {b : CT} {x : Bool} {s1 : S} : kAndT b x s1 = if x = true then b s1 else .ok false s1 := Eq.trans rfl rfl
@[simp] theorem tAnd_s {a b : CT} {s : S} : tAnd' a b s = (a s).bind (kAndT b) := Eq.trans rfl rfl
def kOrT (b : CT) (x : Bool) (s1 : S) : R Bool := if x = true then .ok true s1 else b s1
@[simp] theorem kOrT_s {b : CT} {x : Bool} {s1 : S} : kOrT b x s1 = if x = true then .ok true s1 else b s1 := Eq.trans rfl rfl
@[simp] theorem tOr_s {a b : CT} {s : S} : tOr' a b s = (a s).bind (kOrT b) := Eq.trans rfl rfl
def kNotT (x : Bool) (s1 : S) : R Bool := .ok (!x) s1
@[simp] theorem kNotT_s {x : Bool} {s1 : S} : kNotT x s1 = .ok (!x) s1 := Eq.trans rfl rfl
@[simp] theorem tNot_s {a : CT} {s : S} : tNot' a s = (a s).bind kNotT := Eq.trans rfl rfl
def kAndE (b : CE) (x : Bool) (s1 : S) : R Rv := if x = true then b s1 else .ok (.d (.bool false)) s1
@[simp] theorem kAndE_s {b : CE} {x : Bool} {s1 : S} : kAndE b x s1 = if x = true then b s1 else .ok (.d (.bool false)) s1 := Eq.trans rfl rfl
@[simp] theorem cAnd_s {a b : CE} {s : S} : cAnd a b s = (cB a s).bind (kAndE b) := Eq.trans rfl rfl
def kOrE (b : CE) (x : Bool) (s1 : S) : R Rv := if x = true then .ok (.d (.bool true)) s1 else b s1
@[simp] theorem kOrE_s {b : CE} {x : Bool} {s1 : S} : kOrE b x s1 = if x = true then .ok (.d (.bool true)) s1 else b s1 := Eq.trans rfl rfl
@[simp] theorem cOr_s {a b : CE} {s : S} : cOr a b s = (cB a s).bind (kOrE b) := Eq.trans rfl rfl
def kNotE (x : Bool) (s1 : S) : R Rv := .ok (.d (.bool (!x))) s1
@[simp] theorem kNotE_s {x : Bool} {s1 : S} : kNotE x s1 = .ok (.d (.bool (!x))) s1 := Eq.trans rfl rfl
@[simp] theorem cNot_s {a : CE} {s : S} : cNot a s = (cB a s).bind kNotE := Eq.trans rfl rfl
def kIf (a b : CE) (x : Bool) (s1 : S) : R Rv := if x = true then a s1 else b s1
@[simp] theorem kIf_s {a b : CE} {x : Bool} {s1 : S} : kIf a b x s1 = if x = true then a s1 else b s1 := Eq.trans rfl rfl
@[simp] theorem cIf_s {t : CT} {a b : CE} {s : S} : cIf t a b s = (t s).bind (kIf a b) := Eq.trans rfl rfl
@[simp] theorem cNil_s {s : S} : cNil s = .ok [] s := Eq.trans rfl rfl
def kCons (x : D) (xs : List D) (s2 : S) : R (List D) := .ok (x :: xs) s2
@[simp] theorem kCons_s {x : D} {xs : List D} {s2 : S} : kCons x xs s2 = .ok (x :: xs) s2 := Eq.trans rfl rfl
def consR (ca : CA) : Rv → S → R (List D)
  | .d x, s1 => (ca s1).bind (kCons x)
  | _, _ => .bad
@[simp] theorem consR_d {ca : CA} {x : D} {s1 : S} : consR ca (.d x) s1 = (ca s1).bind (kCons x) := Eq.trans rfl rfl
@[simp] theorem cCons_s {c : CE} {ca : CA} {s : S} : cCons c ca s = (cv c s).bind (consR ca) := by
  unfold cCons
  congr 1
  funext a s1
  cases a <;> rfl
def kTup (ds : List D) (s1 : S) : R Rv := .ok (.d (.tuple ds)) s1
@[simp] theorem kTup_s {ds : List D} {s1 : S} : kTup ds s1 = .ok (.d (.tuple ds)) s1 := Eq.trans rfl rfl
@[simp] theorem cTup_s {ca : CA} {s : S} : cTup ca s = (ca s).bind kTup := Eq.trans rfl rfl
def kLst (ds : List D) (s1 : S) : R Rv := .ok (.new (.l ds)) s1
@[simp] theorem kLst_s {ds : List D} {s1 : S} : kLst ds s1 = .ok (.new (.l ds)) s1 := Eq.trans rfl rfl
@[simp] theorem cLst_s {ca : CA} {s : S} : cLst ca s = (ca s).bind kLst := Eq.trans rfl rfl
/-! statements -/
def Out.then (o : Out) (b : CS) : Out := match o with
  | .nx s1 => b s1
  | o => o
@[simp] theorem then_nx {s : S} {b : CS} : (Out.nx s).then b = b s := Eq.trans rfl rfl
@[simp] theorem then_rt {a : Rv} {s : S} {b : CS} : (Out.rt a s).then b = .rt a s := Eq.trans rfl rfl
@[simp] theorem then_bk {s : S} {b : CS} : (Out.bk s).then b = .bk s := Eq.trans rfl rfl
@[simp] theorem then_ct {s : S} {b : CS} : (Out.ct s).then b = .ct s := Eq.trans rfl rfl
@[simp] theorem then_ex {e : String} {s : S} {b : CS} : (Out.ex e s).then b = .ex e s := Eq.trans rfl rfl
@[simp] theorem cSeq_s {a b : CS} {s : S} : cSeq a b s = (a s).then b := by
  unfold cSeq
  generalize a s = o
  cases o <;> rfl
@[simp] theorem cNx_s {s : S} : cNx s = .nx s := Eq.trans rfl rfl
@[simp] theorem cBk_s {s : S} : cBk s = .bk s := Eq.trans rfl rfl
@[simp] theorem cCt_s {s : S} : cCt s = .ct s := Eq.trans rfl rfl
def kExp (_ : Rv) (s1 : S) : Out := .nx s1
@[simp] theorem kExp_s {a : Rv} {s1 : S} : kExp a s1 = .nx s1 := Eq.trans rfl rfl
@[simp] theorem cExp_s {c : CE} {s : S} : cExp c s = (c s).out kExp := Eq.trans rfl rfl
@[simp] theorem cRet_s {c : CE} {s : S} : cRet c s = (c s).out .rt := Eq.trans rfl rfl
@[simp] theorem cRetN_s {s : S} : cRetN s = .rt (.d .none) s := Eq.trans rfl rfl
def kIfS (a b : CS) (x : Bool) (s1 : S) : Out := if x = true then a s1 else b s1
@[simp] theorem kIfS_s {a b : CS} {x : Bool} {s1 : S} : kIfS a b x s1 = if x = true then a s1 else b s1 := Eq.trans rfl rfl
@[simp] theorem cIfS_s {t : CT} {a b : CS} {s : S} : cIfS t a b s = (t s).out (kIfS a b) := Eq.trans rfl rfl
def setR (i : Nat) : Rv → S → Out
  | .d x, s1 => .nx ⟨s1.v.set i (.d x), s1.m⟩
  | .ref n, s1 => .nx ⟨s1.v.set i (.c n), s1.m⟩
  | .t b es, s1 => .nx ⟨s1.v.set i (.t b es), s1.m⟩
  | .new _, _ => .bad
@[simp] theorem setR_t {i : Nat} {b : Bool} {es : List El} {s1 : S} : setR i (.t b es) s1 = .nx ⟨s1.v.set i (.t b es), s1.m⟩ := Eq.trans rfl rfl
@[simp] theorem setR_d {i : Nat} {x : D} {s1 : S} : setR i (.d x) s1 = .nx ⟨s1.v.set i (.d x), s1.m⟩ := Eq.trans rfl rfl
@[simp] theorem setR_ref {i : Nat} {x : Nat} {s1 : S} : setR i (.ref x) s1 = .nx ⟨s1.v.set i (.c x), s1.m⟩ := Eq.trans rfl rfl
@[simp] theorem cSet_s {i : Nat} {c : CE} {s : S} : cSet i c s = (cv c s).out (setR i) := by
  unfold cSet
  congr 1
  funext a s1
  cases a <;> rfl
def setMR (i : Nat) : Rv → S → Out
  | .new .gone, _ => .bad
  | .new (.i _ _ _), _ => .bad
  | .new cell, s1 => .nx ⟨s1.v.set i (.c s1.m.length), s1.m ++ [cell]⟩
  | .ref n, s1 => .nx ⟨s1.v.set i (.c n), s1.m⟩
  | .t b es, s1 => .nx ⟨s1.v.set i (.t b es), s1.m⟩
  | .d _, _ => .bad
@[simp] theorem setMR_t' {i : Nat} {b : Bool} {es : List El} {s1 : S} : setMR i (.t b es) s1 = .nx ⟨s1.v.set i (.t b es), s1.m⟩ := Eq.trans rfl rfl
@[simp] theorem setMR_l {i : Nat} {ds : List D} {s1 : S} : setMR i (.new (.l ds)) s1 = .nx ⟨s1.v.set i (.c s1.m.length), s1.m ++ [.l ds]⟩ := Eq.trans rfl rfl
@[simp] theorem setMR_k {i : Nat} {ds : List (L2.Key × D)} {s1 : S} : setMR i (.new (.k ds)) s1 = .nx ⟨s1.v.set i (.c s1.m.length), s1.m ++ [.k ds]⟩ := Eq.trans rfl rfl
@[simp] theorem setMR_t {i : Nat} {ds : List (List L2.Key × D)} {s1 : S} : setMR i (.new (.t ds)) s1 = .nx ⟨s1.v.set i (.c s1.m.length), s1.m ++ [.t ds]⟩ := Eq.trans rfl rfl
@[simp] theorem setMR_r {i : Nat} {ds : List (List L2.Key)} {s1 : S} : setMR i (.new (.r ds)) s1 = .nx ⟨s1.v.set i (.c s1.m.length), s1.m ++ [.r ds]⟩ := Eq.trans rfl rfl
@[simp] theorem setMR_ref {i : Nat} {n : Nat} {s1 : S} : setMR i (.ref n) s1 = .nx ⟨s1.v.set i (.c n), s1.m⟩ := Eq.trans rfl rfl
@[simp] theorem cSetM_s {i : Nat} {c : CE} {s : S} : cSetM i c s = (c s).out (setMR i) := by
  unfold cSetM
  congr 1
  funext a s1
  cases a with
  | d x => rfl
  | t b es => rfl
  | ref n => rfl
  | new c => cases c <;> rfl
def putR (i o v : Rv) (s3 : S) : Out := match v, o, i with
  | .d v, .ref n, .d k => match s3.m[n]? with
    | some c => match putIn c k v with
      | some c' => .nx ⟨s3.v, s3.m.set n c'⟩
      | none => .bad
    | none => .bad
  | _, _, _ => .bad
def kPut3 (o v i : Rv) (s3 : S) : Out := putR i o v s3
@[simp] theorem kPut3_s {o v i : Rv} {s3 : S} : kPut3 o v i s3 = putR i o v s3 := Eq.trans rfl rfl
def kPut2 (ci : CE) (v o : Rv) (s2 : S) : Out := (cv ci s2).out (kPut3 o v)
@[simp] theorem kPut2_s {ci : CE} {v o : Rv} {s2 : S} : kPut2 ci v o s2 = (cv ci s2).out (kPut3 o v) := Eq.trans rfl rfl
def kPut1 (co ci : CE) (v : Rv) (s1 : S) : Out := (cv co s1).out (kPut2 ci v)
@[simp] theorem kPut1_s {co ci : CE} {v : Rv} {s1 : S} : kPut1 co ci v s1 = (cv co s1).out (kPut2 ci v) := Eq.trans rfl rfl
@[simp] theorem cPut_s {co ci cw : CE} {s : S} : cPut co ci cw s = (cv cw s).out (kPut1 co ci) := Eq.trans rfl rfl
def putK (v : List Sl) (m : List Cell) (n : Nat) : Option Cell → Out
  | some c => .nx ⟨v, m.set n c⟩
  | none => .bad
@[simp] theorem putK_s {v : List Sl} {m : List Cell} {n : Nat} {c : Cell} : putK v m n (some c) = .nx ⟨v, m.set n c⟩ := Eq.trans rfl rfl
@[simp] theorem putR_s {n : Nat} {k v : D} {s3 : S} {c : Cell} (h : s3.m[n]? = some c) : putR (.d k) (.ref n) (.d v) s3 = putK s3.v s3.m n (putIn c k v) := by
  unfold putR
  dsimp only
  rw [h]
  dsimp only
  generalize putIn c k v = o
  cases o <;> rfl
/-! calls -/
@[simp] theorem lNil_s {s : S} : lNil s = .ok [] s := Eq.trans rfl rfl
def kLc (x : Sl) (r : List Sl) (s2 : S) : R (List Sl) := .ok (x :: r) s2
@[simp] theorem kLc_s {x : Sl} {r : List Sl} {s2 : S} : kLc x r s2 = .ok (x :: r) s2 := Eq.trans rfl rfl
def lconsR (cl : CL) : Rv → S → R (List Sl)
  | .d x, s1 => (cl s1).bind (kLc (.d x))
  | .ref n, s1 => (cl s1).bind (kLc (.c n))
  | .t b es, s1 => (cl s1).bind (kLc (.t b es))
  | _, _ => .bad
@[simp] theorem lconsR_t {cl : CL} {b : Bool} {es : List El} {s1 : S} : lconsR cl (.t b es) s1 = (cl s1).bind (kLc (.t b es)) := Eq.trans rfl rfl
@[simp] theorem lconsR_d {cl : CL} {x : D} {s1 : S} : lconsR cl (.d x) s1 = (cl s1).bind (kLc (.d x)) := Eq.trans rfl rfl
@[simp] theorem lconsR_r {cl : CL} {x : Nat} {s1 : S} : lconsR cl (.ref x) s1 = (cl s1).bind (kLc (.c x)) := Eq.trans rfl rfl
@[simp] theorem lCons_s {c : CE} {cl : CL} {s : S} : lCons c cl s = (cv c s).bind (lconsR cl) := by
  unfold lCons
  congr 1
  funext a s1
  cases a <;> rfl
def kCall (f : Fn) (as : List Sl) (s1 : S) : R Rv := (f as s1.m).toR s1.v
@[simp] theorem kCall_s {f : Fn} {as : List Sl} {s1 : S} : kCall f as s1 = (f as s1.m).toR s1.v := Eq.trans rfl rfl
@[simp] theorem cCall_s {f : Fn} {cl : CL} {s : S} : cCall f cl s = (cl s).bind (kCall f) := Eq.trans rfl rfl
@[simp] theorem toR_ok {a : Rv} {m : List Cell} {v : List Sl} : (RF.ok a m).toR v = .ok a ⟨v, m⟩ := Eq.trans rfl rfl
@[simp] theorem toR_ex {a : String} {m : List Cell} {v : List Sl} : (RF.ex a m).toR v = .ex a ⟨v, m⟩ := Eq.trans rfl rfl
def kCallP (f : Fn) (as : List Sl) (s1 : S) : R Rv := if as.all Sl.isD = true then (f as []).pure s1 else .bad
@[simp] theorem kCallP_s {f : Fn} {as : List Sl} {s1 : S} : kCallP f as s1 = if as.all Sl.isD = true then (f as []).pure s1 else .bad := Eq.trans rfl rfl
@[simp] theorem cCallP_s {f : Fn} {cl : CL} {s : S} : cCallP f cl s = (cl s).bind (kCallP f) := Eq.trans rfl rfl
@[simp] theorem isD_d {x : D} : (Sl.d x).isD = true := Eq.trans rfl rfl
@[simp] theorem pure_d {x : D} {m : List Cell} {s : S} : (RF.ok (.d x) m).pure s = .ok (.d x) s := Eq.trans rfl rfl
@[simp] theorem pure_new {x : Cell} {m : List Cell} {s : S} : (RF.ok (.new x) m).pure s = .ok (.new x) s := Eq.trans rfl rfl
@[simp] theorem pure_ex {x : String} {m : List Cell} {s : S} : (RF.ex x m).pure s = .ex x s := Eq.trans rfl rfl
theorem runF_s {n : Nat} {c : CS} {as : List Sl} {m : List Cell} : runF n c as m = fin m (c ⟨as ++ List.replicate (n - as.length) .u, m⟩) := rfl
@[simp] theorem fin_d {m : List Cell} {x : D} {s : S} : fin m (.rt (.d x) s) = .ok (.d x) (s.m.take m.length) := Eq.trans rfl rfl
@[simp] theorem fin_new {m : List Cell} {x : Cell} {s : S} : fin m (.rt (.new x) s) = .ok (.new x) (s.m.take m.length) := Eq.trans rfl rfl
@[simp] theorem fin_ex {m : List Cell} {x : String} {s : S} : fin m (.ex x s) = .ex x (s.m.take m.length) := Eq.trans rfl rfl
@[simp] theorem fin_nx {m : List Cell} {s : S} : fin m (.nx s) = .ok (.d .none) (s.m.take m.length) := Eq.trans rfl rfl
/-! operations -/
section
variable {i j : Int}
@[simp] theorem opAdd_i : opAdd (.d (.int i)) (.d (.int j)) = some (.d (.int (i + j))) := Eq.trans rfl rfl
@[simp] theorem opSub_i : opSub (.d (.int i)) (.d (.int j)) = some (.d (.int (i - j))) := Eq.trans rfl rfl
@[simp] theorem opNeg_i : opNeg (.d (.int i)) = some (.d (.int (-i))) := Eq.trans rfl rfl
@[simp] theorem opAbs_i : opAbs (.d (.int i)) = some (.d (.int (if i < 0 then -i else i))) := Eq.trans rfl rfl
theorem opMul_i (h : mulOk i j = true) : opMulV (.d (.int i)) (.d (.int j)) = some (.d (.int (i * j))) := by
  show (if mulOk i j = true then _ else _) = _
  rw [if_pos h]
theorem opMod_i (h : 0 < j) : opMod (.d (.int i)) (.d (.int j)) = some (.d (.int (i % j))) := by
  show (if j ≠ 0 then some (Rv.d (.int (fmd i j))) else none) = _
  rw [if_pos (by omega)]
  unfold fmd
  rw [if_pos h]
theorem opDiv_i (h : 0 < j) (h2 : j.natAbs.log2 < 9000) : opDiv (.d (.int i)) (.d (.int j)) = some (.d (.int (i / j))) := by
  show (if j ≠ 0 ∧ j.natAbs.log2 < 9000 then some (Rv.d (.int (fdv i j))) else none) = _
  rw [if_pos ⟨by omega, h2⟩]
  unfold fdv
  rw [if_pos h]
@[simp] theorem opLt_i : opLt (.d (.int i)) (.d (.int j)) = some (.d (.bool (decide (i < j)))) := Eq.trans rfl rfl
@[simp] theorem opLe_i : opLe (.d (.int i)) (.d (.int j)) = some (.d (.bool (decide (i ≤ j)))) := Eq.trans rfl rfl
@[simp] theorem opGt_i : opGt (.d (.int i)) (.d (.int j)) = some (.d (.bool (decide (j < i)))) := Eq.trans rfl rfl
@[simp] theorem opGe_i : opGe (.d (.int i)) (.d (.int j)) = some (.d (.bool (decide (j ≤ i)))) := Eq.trans rfl rfl
@[simp] theorem opEq_i : opEq (.d (.int i)) (.d (.int j)) = some (.d (.bool (decide (i = j)))) := Eq.trans rfl rfl
@[simp] theorem opNe_i : opNe (.d (.int i)) (.d (.int j)) = some (.d (.bool (!decide (i = j)))) := Eq.trans rfl rfl
@[simp] theorem opLen_l {ds : List D} : opLen (.d (.list ds)) = some (.d (.int ds.length)) := Eq.trans rfl rfl
@[simp] theorem opLen_t {ds : List D} : opLen (.d (.tuple ds)) = some (.d (.int ds.length)) := Eq.trans rfl rfl
end
theorem atI_nat {α : Type} {xs : List α} {i : Int} {x : α} (h0 : 0 ≤ i) (h : xs[i.toNat]? = some x) : atI xs i = some x := by
  have hl : i.toNat < xs.length := (List.getElem?_eq_some_iff.mp h).1
  unfold atI ixN
  rw [if_pos h0, if_pos (by omega)]
  exact h
theorem opIx_l {ds : List D} {i : Int} {x : D} (h : atI ds i = some x) : opIx (.d (.list ds)) (.d (.int i)) = some (.d x) := by
  show (match atI ds i with | some d => some (Rv.d d) | none => none) = _
  rw [h]
theorem opIx_t {ds : List D} {i : Int} {x : D} (h : atI ds i = some x) : opIx (.d (.tuple ds)) (.d (.int i)) = some (.d x) := by
  show (match atI ds i with | some d => some (Rv.d d) | none => none) = _
  rw [h]
theorem log2_lt {n k : Nat} (h : n < 2 ^ k) : n.log2 < k + 1 := by
  by_cases h0 : n = 0
  · subst h0
    show 0 < k + 1
    omega
  · have := (Nat.log2_lt h0).mpr h
    omega
theorem mulOk_small {i j : Int} (hi : i.natAbs < 2 ^ 200) (hj : j.natAbs < 2 ^ 200) : mulOk i j = true := by
  unfold mulOk
  rw [decide_eq_true_eq]
  have h1 := log2_lt hi
  have h2 := log2_lt hj
  omega
theorem log2_many {j : Int} (h0 : 0 < j) (h : j < 2 ^ 200) : j.natAbs.log2 < 9000 := by
  have := log2_lt (n := j.natAbs) (k := 200) (by omega)
  omega
theorem opDiv_s {i j : Int} (h : 0 < j) (h2 : j < 18446744073709551616) : opDiv (.d (.int i)) (.d (.int j)) = some (.d (.int (i / j))) := opDiv_i h (log2_many h (by omega))
/-! loops -/
def Out.loop (o : Out) (k : S → Out) : Out := match o with
  | .nx s => k s
  | .ct s => k s
  | .bk s => .nx s
  | o => o
@[simp] theorem loop_nx {s : S} {k : S → Out} : (Out.nx s).loop k = k s := Eq.trans rfl rfl
@[simp] theorem loop_ct {s : S} {k : S → Out} : (Out.ct s).loop k = k s := Eq.trans rfl rfl
@[simp] theorem loop_bk {s : S} {k : S → Out} : (Out.bk s).loop k = .nx s := Eq.trans rfl rfl
@[simp] theorem loop_rt {a : Rv} {s : S} {k : S → Out} : (Out.rt a s).loop k = .rt a s := Eq.trans rfl rfl
@[simp] theorem forL_nil {tg : Tg} {body : CS} {s : S} : forL tg body [] s = .nx s := Eq.trans rfl rfl
theorem forL_cons {tg : Tg} {body : CS} {d : D} {ds : List D} {s s1 : S} (h : tg d s = some s1) : forL tg body (d :: ds) s = (body s1).loop (forL tg body ds) := by
  show (match tg d s with | none => Out.bad | some s1 => (match body s1 with
      | .nx s2 => forL tg body ds s2
      | .ct s2 => forL tg body ds s2
      | .bk s2 => .nx s2
      | o => o)) = _
  rw [h]
  dsimp only
  generalize body s1 = o
  cases o <;> rfl
theorem forL_from {tg : Tg} {body : CS} (I : Nat → S → Prop) : ∀ (ds : List D) (k : Nat) (s : S), (∀ i s d, ds[i]? = some d → I (k + i) s → ∃ s1 s2, tg d s = some s1 ∧ (body s1 = .nx s2 ∨ body s1 = .ct s2) ∧ I (k + i + 1) s2) → I k s → ∃ s', forL tg body ds s = .nx s' ∧ I (k + ds.length) s'
  | [], k, s, _, h0 => ⟨s, rfl, h0⟩
  | d :: ds, k, s, h, h0 => by
    obtain ⟨s1, s2, e1, e2, h1⟩ := h 0 s d rfl h0
    have r : forL tg body (d :: ds) s = forL tg body ds s2 := by
      rw [forL_cons e1]
      rcases e2 with e2 | e2 <;> rw [e2] <;> rfl
    rw [r]
    obtain ⟨s', e, h2⟩ := forL_from I ds (k + 1) s2 (fun i s d hd hi => by
      have := h (i + 1) s d (by simpa using hd) (by rw [show k + (i + 1) = k + 1 + i by omega]; exact hi)
      rw [show k + (i + 1) + 1 = k + 1 + i + 1 by omega] at this
      exact this) h1
    refine ⟨s', e, ?_⟩
    rw [List.length_cons, show k + (ds.length + 1) = k + 1 + ds.length by omega]
    exact h2
/-- a for loop that keeps I -/
theorem forL_inv {tg : Tg} {body : CS} (I : Nat → S → Prop) {ds : List D} {s : S} (h0 : I 0 s) (h : ∀ i s d, ds[i]? = some d → I i s → ∃ s1 s2, tg d s = some s1 ∧ (body s1 = .nx s2 ∨ body s1 = .ct s2) ∧ I (i + 1) s2) : ∃ s', forL tg body ds s = .nx s' ∧ I ds.length s' := by
  obtain ⟨s', e, h1⟩ := forL_from I ds 0 s (fun i s d hd hi => by
    rw [Nat.zero_add] at hi ⊢
    exact h i s d hd hi) h0
  rw [Nat.zero_add] at h1
  exact ⟨s', e, h1⟩
theorem rangeD_at : ∀ (n : Nat) (lo : Int) (i : Nat), i < n → (rangeD lo n)[i]? = some (.int (lo + i))
  | 0, _, _, h => by omega
  | n + 1, lo, 0, _ => by
    show some (PyData.int lo) = _
    rw [show lo + ((0 : Nat) : Int) = lo by omega]
  | n + 1, lo, i + 1, h => by
    show (rangeD (lo + 1) n)[i]? = _
    rw [rangeD_at n (lo + 1) i (by omega), show lo + 1 + (i : Int) = lo + ((i + 1 : Nat) : Int) by omega]
theorem rangeD_lt {n : Nat} {lo : Int} {i : Nat} {d : D} (h : (rangeD lo n)[i]? = some d) : i < n ∧ d = .int (lo + i) := by
  have hl : i < (rangeD lo n).length := (List.getElem?_eq_some_iff.mp h).1
  rw [rangeD_len] at hl
  refine ⟨hl, ?_⟩
  rw [rangeD_at n lo i hl] at h
  cases h
  rfl
@[simp] theorem cFor_s {ci : CI} {tg : Tg} {body : CS} {s : S} : cFor ci tg body s = (ci s).out fun ds s1 => forL tg body ds s1 := Eq.trans rfl rfl
theorem ciR1_s {c : CE} {s s1 : S} {n : Int} (h : c s = .ok (.d (.int n)) s1) (hn : -4611686018427387904 ≤ n) (hn2 : n < 4611686018427387904) : ciR1 c s = .ok (rangeD 0 n.toNat) s1 := by
  unfold ciR1
  rw [cv_s, h, bind_ok, frz_d, bind_ok]
  dsimp only
  rw [if_pos (by unfold small62; simp; omega)]
def seqR : Rv → S → R (List D)
  | .d (.list ds), s1 => .ok ds s1
  | .d (.tuple ds), s1 => .ok ds s1
  | _, _ => .bad
@[simp] theorem seqR_l {ds : List D} {s : S} : seqR (.d (.list ds)) s = .ok ds s := Eq.trans rfl rfl
@[simp] theorem seqR_t {ds : List D} {s : S} : seqR (.d (.tuple ds)) s = .ok ds s := Eq.trans rfl rfl
@[simp] theorem ciSeq_s {c : CE} {s : S} : ciSeq c s = (cv c s).bind seqR := by
  unfold ciSeq
  congr 1
  funext a s1
  rcases a with (_ | _ | _ | _ | _ | _ | _) | _ | _ <;> rfl
@[simp] theorem tgN_s {i : Nat} {d : D} {s : S} : tgN i d s = some ⟨s.v.set i (.d d), s.m⟩ := Eq.trans rfl rfl
/-! checks that the kernel runs -/
end Vm
namespace Vm
open PySem L2
/-! ### the pen that is a dict -/
def penC (cells : List Int) (at' left : Int) : Cell := .k [(.inr "cells", .list (cells.map PyData.int)), (.inr "at", .int at'), (.inr "left", .int left)]
section
variable {cells : List Int} {at' left v : Int}
@[simp] theorem odC_pen : odC (some (penC cells at' left)) = some (.c (penC cells at' left)) := rfl
@[simp] theorem pen_cells : opItem (.c (penC cells at' left)) (.d (.str "cells")) = some (.d (.list (cells.map PyData.int))) := by
  simp [opItem, penC, look, keyOf, getD]
@[simp] theorem pen_at : opItem (.c (penC cells at' left)) (.d (.str "at")) = some (.d (.int at')) := by
  have h : ((Sum.inr ("cells" : Str) : L2.Key) = Sum.inr ("at" : Str)) = False := eq_false (by decide)
  simp [opItem, penC, look, keyOf, getD, List.find?, h]
@[simp] theorem pen_left : opItem (.c (penC cells at' left)) (.d (.str "left")) = some (.d (.int left)) := by
  have h : ((Sum.inr ("cells" : Str) : L2.Key) = Sum.inr ("left" : Str)) = False := eq_false (by decide)
  have h2 : ((Sum.inr ("at" : Str) : L2.Key) = Sum.inr ("left" : Str)) = False := eq_false (by decide)
  simp [opItem, penC, look, keyOf, getD, List.find?, h, h2]
@[simp] theorem pen_put_at : putIn (penC cells at' left) (.str "at") (.int v) = some (penC cells v left) := by
  have h : ((Sum.inr ("cells" : Str) : L2.Key) = Sum.inr ("at" : Str)) = False := eq_false (by decide)
  have h2 : ((Sum.inr ("left" : Str) : L2.Key) = Sum.inr ("at" : Str)) = False := eq_false (by decide)
  simp [penC, putIn, keyOf, putD, h, h2]
@[simp] theorem pen_put_left : putIn (penC cells at' left) (.str "left") (.int v) = some (penC cells at' v) := by
  have h : ((Sum.inr ("cells" : Str) : L2.Key) = Sum.inr ("left" : Str)) = False := eq_false (by decide)
  have h2 : ((Sum.inr ("at" : Str) : L2.Key) = Sum.inr ("left" : Str)) = False := eq_false (by decide)
  simp [penC, putIn, keyOf, putD, h, h2]
end
structure IsPen (B : Nat) (p : Cell) : Prop where
  ex : ∃ cells at' left, p = penC cells at' left ∧ cells.length ≤ 63 ∧ 0 ≤ at' ∧ at' ≤ B ∧ 0 ≤ left
theorem IsPen.mono {B C : Nat} {p : Cell} (h : IsPen B p) (hb : B ≤ C) : IsPen C p := by
  obtain ⟨a, b, c, h1, h2, h3, h4, h5⟩ := h.ex
  exact ⟨a, b, c, h1, h2, h3, by omega, h5⟩
/-- a draw from many -/
def IsDraw (f : Fn) (P : Nat → Cell → Prop) : Prop := ∀ (B : Nat) (p : Cell) (r : List Cell) (many : Int), P B p → B < 1000000 → 0 < many → many.natAbs.log2 < 9000 → ∃ v p', f [.c 0, .d (.int many)] (p :: r) = .ok (.d (.int v)) (p' :: r) ∧ 0 ≤ v ∧ v < many ∧ P (B + 1) p'
def cDrawB : CS :=
 (cSeq (cIfS (cB (cOp2 opGt (cOp2 opItem (cVar 0) (cC (.str "left"))) (cC (.int 0))))
 (cSeq (cSet 2 (cOp2 opMod (cOp2 opItem (cVar 0) (cC (.str "left"))) (cVar 1)))
 (cSeq (cPut (cVar 0) (cC (.str "left")) (cOp2 opDiv (cOp2 opItem (cVar 0) (cC (.str "left"))) (cVar 1)))
 (cRet (cVar 2))))
 cNx)
 (cSeq (cSet 3 (cOp2 opItem (cVar 0) (cC (.str "at"))))
 (cSeq (cPut (cVar 0) (cC (.str "at")) (cOp2 opAdd (cVar 3) (cC (.int 1))))
 (cSeq (cSet 4 (cOp2 opAdd (cOp2 opMulV (cOp2 opMulV (cC (.int 11)) (cVar 3)) (cVar 3)) (cC (.int 5))))
 (cSeq (cIfS (cB (cOp2 opGt (cOp1 opLen (cOp2 opItem (cVar 0) (cC (.str "cells")))) (cC (.int 0))))
 (cSet 4 (cOp2 opIx (cOp2 opItem (cVar 0) (cC (.str "cells"))) (cOp2 opMod (cVar 3) (cOp1 opLen (cOp2 opItem (cVar 0) (cC (.str "cells")))))))
 cNx)
 (cSeq (cIfS (tAnd' (cB (cOp2 opLt (cVar 3) (cOp1 opLen (cOp2 opItem (cVar 0) (cC (.str "cells")))))) (cB (cOp2 opGe (cOp1 opAbs (cVar 4)) (cOp2 opPow (cC (.int 10)) (cC (.int 18))))))
 (cSeq (cPut (cVar 0) (cC (.str "left")) (cOp2 opDiv (cOp1 opAbs (cVar 4)) (cVar 1)))
 (cRet (cOp2 opMod (cOp1 opAbs (cVar 4)) (cVar 1))))
 cNx)
 (cSeq (cSet 5 (cOp2 opMod (cOp2 opMulV (cOp2 opAdd (cOp2 opAdd (cOp2 opMod (cVar 4) (cC (.int 2147483629))) (cOp2 opMulV (cC (.int 104729)) (cVar 3))) (cC (.int 1))) (cC (.int 48271))) (cC (.int 2147483647))))
 (cSeq (cSet 5 (cOp2 opMod (cOp2 opAdd (cOp2 opAdd (cOp2 opMulV (cVar 5) (cVar 5)) (cOp2 opMulV (cC (.int 69621)) (cVar 5))) (cVar 3)) (cC (.int 2147483587))))
 (cSeq (cSet 5 (cOp2 opMod (cOp2 opMulV (cVar 5) (cOp2 opAdd (cOp2 opMod (cVar 5) (cC (.int 65521))) (cC (.int 3)))) (cC (.int 2147483579))))
 (cRet (cOp2 opMod (cOp2 opDiv (cVar 5) (cC (.int 64))) (cVar 1))))))))))))
def fDrawB : Fn := runF 6 cDrawB
end Vm
namespace Vm
open PySem L2
/-! ### more runs step by step -/
/-- the cell of a list -/
def mutR (f : List D → List D → Option (D × List D)) (ca : CA) : Rv → S → R Rv
  | .ref n, s1 => match s1.m[n]? with
    | some (.l _) => (ca s1).bind fun ds s2 => match s2.m[n]? with
      | some (.l xs) => match f xs ds with
        | some (d, ys) => .ok (.d d) ⟨s2.v, s2.m.set n (.l ys)⟩
        | none => .bad
      | _ => .bad
    | _ => .bad
  | _, _ => .bad
@[simp] theorem cMut_s {f : List D → List D → Option (D × List D)} {co : CE} {ca : CA} {s : S} : cMut f co ca s = (cv co s).bind (mutR f ca) := by
  unfold cMut
  congr 1
  funext a s1
  cases a <;> rfl
def mutK (v : List Sl) (m : List Cell) (n : Nat) : Option (D × List D) → R Rv
  | some (d, ys) => .ok (.d d) ⟨v, m.set n (.l ys)⟩
  | none => .bad
@[simp] theorem mutK_s {v : List Sl} {m : List Cell} {n : Nat} {d : D} {ys : List D} : mutK v m n (some (d, ys)) = .ok (.d d) ⟨v, m.set n (.l ys)⟩ := Eq.trans rfl rfl
def mutA (f : List D → List D → Option (D × List D)) (n : Nat) (ds : List D) (s2 : S) : R Rv := match s2.m[n]? with
  | some (.l xs) => mutK s2.v s2.m n (f xs ds)
  | _ => .bad
@[simp] theorem mutA_s {f : List D → List D → Option (D × List D)} {n : Nat} {ds xs : List D} {s2 : S} (h : s2.m[n]? = some (.l xs)) : mutA f n ds s2 = mutK s2.v s2.m n (f xs ds) := by
  unfold mutA
  rw [h]
@[simp] theorem mutR_s {f : List D → List D → Option (D × List D)} {ca : CA} {n : Nat} {s1 : S} {xs : List D} (h : s1.m[n]? = some (.l xs)) : mutR f ca (.ref n) s1 = (ca s1).bind (mutA f n) := by
  unfold mutR
  dsimp only
  rw [h]
  dsimp only
  congr 1
@[simp] theorem fRev_s {xs : List D} : fRev xs [] = some (.none, xs.reverse) := Eq.trans rfl rfl
@[simp] theorem fClr_s {xs : List D} : fClr xs [] = some (.none, []) := Eq.trans rfl rfl
theorem fExt_s {xs ys : List D} (h : xs.length + ys.length ≤ 16000000) : fExt xs [.list ys] = some (.none, xs ++ ys) := by
  show (if xs.length + ys.length ≤ 16000000 then _ else _) = _
  rw [if_pos h]
/-- xs[i] = e -/
def putLR (i o v : Rv) (s3 : S) : Out := match v, o, i with
  | .d v, .ref n, .d (.int k) => match s3.m[n]? with
    | some (.l xs) => match ixN xs.length k with
      | some j => .nx ⟨s3.v, s3.m.set n (.l (xs.set j v))⟩
      | none => .bad
    | _ => .bad
  | _, _, _ => .bad
def kPutL3 (o v i : Rv) (s3 : S) : Out := putLR i o v s3
@[simp] theorem kPutL3_s {o v i : Rv} {s3 : S} : kPutL3 o v i s3 = putLR i o v s3 := Eq.trans rfl rfl
def kPutL2 (ci : CE) (v o : Rv) (s2 : S) : Out := (cv ci s2).out (kPutL3 o v)
@[simp] theorem kPutL2_s {ci : CE} {v o : Rv} {s2 : S} : kPutL2 ci v o s2 = (cv ci s2).out (kPutL3 o v) := Eq.trans rfl rfl
def kPutL1 (co ci : CE) (v : Rv) (s1 : S) : Out := (cv co s1).out (kPutL2 ci v)
@[simp] theorem kPutL1_s {co ci : CE} {v : Rv} {s1 : S} : kPutL1 co ci v s1 = (cv co s1).out (kPutL2 ci v) := Eq.trans rfl rfl
@[simp] theorem cPutL_s {co ci cw : CE} {s : S} : cPutL co ci cw s = (cv cw s).out (kPutL1 co ci) := Eq.trans rfl rfl
theorem putLR_s {n : Nat} {k : Int} {v : D} {s3 : S} {xs : List D} (h : s3.m[n]? = some (.l xs)) (h0 : 0 ≤ k) (h1 : k < xs.length) : putLR (.d (.int k)) (.ref n) (.d v) s3 = .nx ⟨s3.v, s3.m.set n (.l (xs.set k.toNat v))⟩ := by
  unfold putLR
  dsimp only
  rw [h]
  dsimp only
  unfold ixN
  rw [if_pos h0, if_pos (by omega)]
/-! slices -/
@[simp] theorem cPt_n {s : S} : cPt none s = .ok none s := Eq.trans rfl rfl
def intR : Rv → S → R Int
  | .d (.int i), s => .ok i s
  | _, _ => .bad
@[simp] theorem intR_i {i : Int} {s : S} : intR (.d (.int i)) s = .ok i s := Eq.trans rfl rfl
@[simp] theorem cI_s {c : CE} {s : S} : cI c s = (cv c s).bind intR := by
  unfold cI
  congr 1
  funext a s1
  rcases a with (_ | _ | _ | _ | _ | _ | _) | _ | _ <;> rfl
def kPt (i : Int) (s1 : S) : R (Option Int) := .ok (some i) s1
@[simp] theorem kPt_s {i : Int} {s1 : S} : kPt i s1 = .ok (some i) s1 := Eq.trans rfl rfl
@[simp] theorem cPt_s {c : CE} {s : S} : cPt (some c) s = (cI c s).bind kPt := Eq.trans rfl rfl
def kSl3 (a : Rv) (l u : Option Int) (s3 : S) : R Rv := odK1 (fun o => opSl o l u) (a.od s3.m) s3
@[simp] theorem kSl3_s {a : Rv} {l u : Option Int} {s3 : S} : kSl3 a l u s3 = odK1 (fun o => opSl o l u) (a.od s3.m) s3 := Eq.trans rfl rfl
def kSl2 (hi : S → R (Option Int)) (a : Rv) (l : Option Int) (s2 : S) : R Rv := (hi s2).bind (kSl3 a l)
@[simp] theorem kSl2_s {hi : S → R (Option Int)} {a : Rv} {l : Option Int} {s2 : S} : kSl2 hi a l s2 = (hi s2).bind (kSl3 a l) := Eq.trans rfl rfl
def kSl1 (lo hi : S → R (Option Int)) (a : Rv) (s1 : S) : R Rv := (lo s1).bind (kSl2 hi a)
@[simp] theorem kSl1_s {lo hi : S → R (Option Int)} {a : Rv} {s1 : S} : kSl1 lo hi a s1 = (lo s1).bind (kSl2 hi a) := Eq.trans rfl rfl
@[simp] theorem cSl_s {c : CE} {lo hi : S → R (Option Int)} {s : S} : cSl c lo hi s = (cv c s).bind (kSl1 lo hi) := by
  unfold cSl
  congr 1
  funext a s1
  rw [kSl1_s]
  congr 1
  funext l s2
  rw [kSl2_s]
  congr 1
  funext u s3
  rw [kSl3_s]
  cases a.od s3.m with
  | none => rfl
  | some o => exact opt_rv
@[simp] theorem opSl_l {ds : List D} {lo hi : Option Int} : opSl (.d (.list ds)) lo hi = some (.new (.l (cutD ds lo hi))) := Eq.trans rfl rfl
@[simp] theorem opSl_t {ds : List D} {lo hi : Option Int} : opSl (.d (.tuple ds)) lo hi = some (.d (.tuple (cutD ds lo hi))) := Eq.trans rfl rfl
theorem cutD_to {α : Type} {xs : List α} {k : Int} (h : 0 ≤ k) : cutD xs none (some k) = xs.take k.toNat := by
  unfold cutD HT.sIx
  dsimp only
  rw [if_neg (by omega), List.drop_zero, Nat.sub_zero]
  by_cases hl : k.toNat ≤ xs.length
  · rw [Nat.min_eq_left hl]
  · rw [Nat.min_eq_right (by omega), List.take_length, List.take_of_length_le (by omega)]
theorem cutD_from {α : Type} {xs : List α} {k : Int} (h : 0 ≤ k) : cutD xs (some k) none = xs.drop k.toNat := by
  unfold cutD HT.sIx
  dsimp only
  rw [if_neg (by omega)]
  by_cases hl : k.toNat ≤ xs.length
  · rw [Nat.min_eq_left hl, List.take_of_length_le (by rw [List.length_drop]; omega)]
  · rw [Nat.min_eq_right (by omega), List.drop_length, List.drop_of_length_le (by omega), List.take_nil]
/-! dicts -/
def kDisp (ks : List L2.Key) (ds : List D) (s1 : S) : R Rv := .ok (.new (.k (mergeD [] ks ds))) s1
@[simp] theorem kDisp_s {ks : List L2.Key} {ds : List D} {s1 : S} : kDisp ks ds s1 = .ok (.new (.k (mergeD [] ks ds))) s1 := Eq.trans rfl rfl
@[simp] theorem cDisp_s {ks : List L2.Key} {ca : CA} {s : S} : cDisp ks ca s = (ca s).bind (kDisp ks) := Eq.trans rfl rfl
theorem merge_pen {a b c : D} : mergeD [] [.inr "cells", .inr "at", .inr "left"] [a, b, c] = [(.inr "cells", a), (.inr "at", b), (.inr "left", c)] := by
  have h : ((Sum.inr ("cells" : Str) : L2.Key) = Sum.inr ("at" : Str)) = False := eq_false (by decide)
  have h2 : ((Sum.inr ("cells" : Str) : L2.Key) = Sum.inr ("left" : Str)) = False := eq_false (by decide)
  have h3 : ((Sum.inr ("at" : Str) : L2.Key) = Sum.inr ("left" : Str)) = False := eq_false (by decide)
  simp [mergeD, putD, h, h2, h3]
def fPen : Fn := runF 1 (cRet (cDisp [(.inr "cells"), (.inr "at"), (.inr "left")] (cCons (cSl (cVar 0) (cPt none) (cPt (some (cC (.int 63))))) (cCons (cC (.int 0)) (cCons (cC (.int 0)) cNil)))))
theorem pen_new {ns : List Int} (h : ns.length ≤ 63) : fPen [.d (.list (ns.map PyData.int))] [] = .ok (.new (penC ns 0 0)) [] := by
  unfold fPen
  rw [runF_s]
  have e : cutD (ns.map PyData.int) none (some 63) = ns.map PyData.int := by
    rw [cutD_to (by decide)]
    exact List.take_of_length_le (by rw [List.length_map]; exact h)
  simp [e, merge_pen, penC]
theorem pen_is {ns : List Int} (h : ns.length ≤ 63) : IsPen 0 (penC ns 0 0) := ⟨ns, 0, 0, rfl, h, by decide, by decide, by decide⟩
@[simp] theorem setMR_pen {i : Nat} {a : List Int} {b c : Int} {s1 : S} : setMR i (.new (penC a b c)) s1 = .nx ⟨s1.v.set i (.c s1.m.length), s1.m ++ [penC a b c]⟩ := Eq.trans rfl rfl
@[simp] theorem pure_pen {a : List Int} {b c : Int} {m : List Cell} {s : S} : (RF.ok (.new (penC a b c)) m).pure s = .ok (.new (penC a b c)) s := Eq.trans rfl rfl
/-! comprehensions -/
/-- a comprehension that changes the cells: I k acc m -/
theorem lcL_inv {own : List Nat} {v0 : List Sl} {tg : Tg} {tt : CT} {el : CE} (I : Nat → List D → List Cell → Prop) : ∀ (ds : List D) (k : Nat) (acc : List D) (m : List Cell), (∀ i acc m d, ds[i]? = some d → I (k + i) acc m → ∃ t, tg d ⟨wipeV v0 own, m⟩ = some t ∧ ∃ b t2, tt t = .ok b t2 ∧ (b = false → I (k + i + 1) acc t2.m) ∧ (b = true → ∃ x s3, cv el t2 = .ok (.d x) s3 ∧ I (k + i + 1) (acc ++ [x]) s3.m)) →
    I k acc m → ∃ acc' m', lcL own v0 tg tt el ds acc m = .ok (.new (.l acc')) ⟨v0, m'⟩ ∧ I (k + ds.length) acc' m'
  | [], k, acc, m, _, h0 => ⟨acc, m, rfl, h0⟩
  | d :: ds, k, acc, m, h, h0 => by
    obtain ⟨t, h1, b, t2, h2, h3, h4⟩ := h 0 acc m d rfl h0
    have go : ∀ acc2 m2, I (k + 1) acc2 m2 → ∃ acc' m', lcL own v0 tg tt el ds acc2 m2 = .ok (.new (.l acc')) ⟨v0, m'⟩ ∧ I (k + (ds.length + 1)) acc' m' := fun acc2 m2 hi => by
      obtain ⟨a, b, e, q⟩ := lcL_inv I ds (k + 1) acc2 m2 (fun i acc m d hd hi => by
        have := h (i + 1) acc m d (by simpa using hd) (by rw [show k + (i + 1) = k + 1 + i by omega]; exact hi)
        rw [show k + (i + 1) + 1 = k + 1 + i + 1 by omega] at this
        exact this) hi
      exact ⟨a, b, e, by rw [show k + (ds.length + 1) = k + 1 + ds.length by omega]; exact q⟩
    unfold lcL
    rw [h1]
    dsimp only
    rw [h2]
    cases b with
    | false =>
      obtain ⟨a, b, e, q⟩ := go acc t2.m (h3 rfl)
      exact ⟨a, b, e, q⟩
    | true =>
      obtain ⟨x, s3, h5, h6⟩ := h4 rfl
      obtain ⟨a, b, e, q⟩ := go (acc ++ [x]) s3.m h6
      refine ⟨a, b, ?_, q⟩
      show ((cv el t2).nx.bind _) = _
      rw [h5]
      exact e
theorem lc_inv {own : List Nat} {ci : CI} {tg : Tg} {tt : CT} {el : CE} {s s1 : S} {ds : List D} (I : Nat → List D → List Cell → Prop) (h : ci s = .ok ds s1) (hl : ds.length ≤ 16000000) (h0 : I 0 [] s1.m)
    (hb : ∀ i acc m d, ds[i]? = some d → I i acc m → ∃ t, tg d ⟨wipeV s1.v own, m⟩ = some t ∧ ∃ b t2, tt t = .ok b t2 ∧ (b = false → I (i + 1) acc t2.m) ∧ (b = true → ∃ x s3, cv el t2 = .ok (.d x) s3 ∧ I (i + 1) (acc ++ [x]) s3.m)) :
    ∃ acc' m', cLc own ci tg tt el s = .ok (.new (.l acc')) ⟨s1.v, m'⟩ ∧ I ds.length acc' m' := by
  obtain ⟨a, b, e, q⟩ := lcL_inv (own := own) (v0 := s1.v) (tg := tg) (tt := tt) (el := el) I ds 0 [] s1.m (fun i acc m d hd hi => by
    rw [Nat.zero_add] at hi ⊢
    exact hb i acc m d hd hi) h0
  rw [Nat.zero_add] at q
  refine ⟨a, b, ?_, q⟩
  unfold cLc
  rw [h, bind_ok, if_pos hl]
  exact e
@[simp] theorem ctYes_s {s : S} : ctYes s = .ok true s := Eq.trans rfl rfl
/-! two names at once -/
def parR (i j : Nat) (x y : Rv) (s2 : S) : Out := match slOf x, slOf y with
  | some p, some q => .nx ⟨(s2.v.set i p).set j q, s2.m⟩
  | _, _ => .bad
@[simp] theorem parR_d {i j : Nat} {x y : D} {s : S} : parR i j (.d x) (.d y) s = .nx ⟨(s.v.set i (.d x)).set j (.d y), s.m⟩ := Eq.trans rfl rfl
def kPar (i j : Nat) (b : CE) (x : Rv) (s1 : S) : Out := (cv b s1).out (parR i j x)
@[simp] theorem kPar_s {i j : Nat} {b : CE} {x : Rv} {s1 : S} : kPar i j b x s1 = (cv b s1).out (parR i j x) := Eq.trans rfl rfl
@[simp] theorem cPar_s {i j : Nat} {a b : CE} {s : S} : cPar i j a b s = (cv a s).out (kPar i j b) := Eq.trans rfl rfl
/-! while -/
theorem whL_s {t : CT} {b : CS} {n : Nat} {s : S} : whL t b (n + 1) s = (t s).out fun x s1 => if x = true then (b s1).loop (whL t b n) else .nx s1 := by
  show (t s).out _ = _
  congr 1
/-- a while loop: the variant falls, the invariant stays -/
theorem whL_inv {t : CT} {b : CS} (I : Nat → S → Prop) (Q : S → Prop) (h : ∀ k s, I k s → (∃ s1, t s = .ok false s1 ∧ Q s1) ∨ ∃ s1 s2 j, t s = .ok true s1 ∧ (b s1 = .nx s2 ∨ b s1 = .ct s2) ∧ j < k ∧ I j s2) : ∀ (n k : Nat) (s : S), k < n → I k s → ∃ s', whL t b n s = .nx s' ∧ Q s'
  | 0, k, s, hn, _ => by omega
  | n + 1, k, s, hn, hi => by
    rw [whL_s]
    rcases h k s hi with ⟨s1, e, q⟩ | ⟨s1, s2, j, e, e2, hj, q⟩
    · refine ⟨s1, ?_, q⟩
      rw [e]
      rfl
    · rw [e]
      obtain ⟨s', e3, q'⟩ := whL_inv I Q h n j s2 (by omega) q
      refine ⟨s', ?_, q'⟩
      rcases e2 with e2 | e2 <;> (show ((b s1).loop _) = _; rw [e2]; exact e3)
end Vm
namespace Vm
open PySem L2 PySem.Spec PyProof.Rows
/-! ### repr -/
def okr (d : D) : Bool := okd d && d.showable && decide (d.shown.length ≤ 16000000)
theorem plain_noDict : (∀ d : D, d.plain = true → d.hasDict = false) ∧ (∀ p : D × D, True) ∧ (∀ ds : List D, PyData.plainAll ds = true → PyData.hasDictAll ds = false) ∧ (∀ kvs : List (D × D), True) := by
  refine ⟨?_, fun _ => trivial, ?_, fun _ => trivial⟩
  · exact noD
  · exact noDs
where
  noD : ∀ d : D, d.plain = true → d.hasDict = false
    | .none, _ => rfl
    | .bool _, _ => rfl
    | .int _, _ => rfl
    | .str _, _ => rfl
    | .list xs, h => by
      simp only [PyData.hasDict]
      exact noDs xs (by simpa [PyData.plain] using h)
    | .tuple xs, h => by
      simp only [PyData.hasDict]
      exact noDs xs (by simpa [PyData.plain] using h)
    | .dict _, h => nomatch h
  noDs : ∀ ds : List D, PyData.plainAll ds = true → PyData.hasDictAll ds = false
    | [], _ => rfl
    | x :: xs, h => by
      have h2 : x.plain = true ∧ PyData.plainAll xs = true := by simpa [PyData.plainAll] using h
      simp only [PyData.hasDictAll, noD x h2.1, noDs xs h2.2, Bool.or_self]
mutual
def noLs : D → Bool
  | .none | .bool _ | .int _ | .str _ => true
  | .list _ => false
  | .tuple xs => noLsAll xs
  | .dict es => noLsKv es
def noLsAll : List D → Bool
  | [] => true
  | x :: xs => noLs x && noLsAll xs
def noLsKv : List (D × D) → Bool
  | [] => true
  | (k, v) :: r => noLs k && noLs v && noLsKv r
end
mutual
theorem Rp.readsN {X : Cx} {pins : List (Addr × Obj)} {σ : L2.St} {H : Hp} {s : Shared} (I : Inv X pins σ H s) : ∀ (d : D) (v : V) (u : Value), noLs d = true → Rp X.K H v d → RelV v u → ∃ as, Reads s.heap u d as ∧ sysModules ∉ as
  | .none, _, _, _, h, r => by
    cases h
    cases r
    exact ⟨_, Reads.none, by simp⟩
  | .bool b, _, _, _, h, r => by
    cases h
    cases r
    exact ⟨_, Reads.bool b, by simp⟩
  | .int i, _, _, _, h, r => by
    cases h
    obtain ⟨t, rfl⟩ := r
    exact ⟨_, Reads.int i t, by simp⟩
  | .str x, _, _, _, h, r => by
    cases h
    obtain ⟨t, rfl⟩ := r
    exact ⟨_, Reads.str x t, by simp⟩
  | .list _, _, _, hp, _, _ => by simp [noLs] at hp
  | .tuple ds, _, _, hp, h, r => by
    cases h with
    | tup hs ha =>
      cases r
      obtain ⟨its, rv, ⟨o, ho, hc, n, hd⟩, _⟩ := I.tuple (SqT.of (K := X.K) hs)
      obtain ⟨as, hr, hn⟩ := RpAll.readsN I ds _ its (by simpa [noLs] using hp) ha rv
      exact ⟨_, Reads.tuple ho hc hd hr, hn⟩
  | .dict es, _, _, hp, h, r => by
    cases h with
    | dct hH hkv =>
      cases r
      obtain ⟨_, hne, vs, kv, o, es', ep, ho, ex, hd, _, pr, _⟩ := I.hok _ _ hH
      obtain ⟨as, bs, h1, h2, h3, h4⟩ := RpKv.readsN I es _ vs es'.toList (by simpa [noLs] using hp) hkv kv pr
      refine ⟨_, Reads.dict ho ex.1 hd h1 h2, fun z => ?_⟩
      rcases List.mem_append.mp z with z | z
      · rcases List.mem_cons.mp z with z | z
        · rw [z] at hne
          simp at hne
        · exact h3 z
      · exact h4 z
    | dctT a b => exact absurd hp (by simp [noLs, noLsKv, tagT])
    | dctN a g b => exact absurd hp (by simp [noLs, noLsKv, tagN])
    | dctF a b => exact absurd hp (by simp [noLs, noLsKv, tagF])
theorem RpAll.readsN {X : Cx} {pins : List (Addr × Obj)} {σ : L2.St} {H : Hp} {s : Shared} (I : Inv X pins σ H s) : ∀ (ds : List D) (vs : List V) (us : List Value), noLsAll ds = true → RpAll X.K H vs ds → Vals vs us → ∃ as, ReadsAll s.heap us ds as ∧ sysModules ∉ as
  | [], _, _, _, h, r => by
    cases h
    cases r
    exact ⟨_, ReadsAll.nil, by simp⟩
  | d :: ds, _, _, hp, h, r => by
    have hp' : noLs d = true ∧ noLsAll ds = true := by simpa [noLsAll] using hp
    cases h with
    | cons h1 h2 =>
      cases r with
      | cons r1 r2 =>
        obtain ⟨as, q1, n1⟩ := Rp.readsN I d _ _ hp'.1 h1 r1
        obtain ⟨bs, q2, n2⟩ := RpAll.readsN I ds _ _ hp'.2 h2 r2
        exact ⟨_, ReadsAll.cons q1 q2, fun z => (List.mem_append.mp z).elim n1 n2⟩
theorem RpKv.readsN {X : Cx} {pins : List (Addr × Obj)} {σ : L2.St} {H : Hp} {s : Shared} (I : Inv X pins σ H s) : ∀ (es : List (D × D)) (ws : List (L2.Key × V)) (vs : List (L2.Key × Value)) (ds : List DictEntry), noLsKv es = true → RpKv X.K H ws es → KV ws vs → Pairs (mixKind X.prog X.w) ds vs →
    ∃ as bs, ReadsAll s.heap (ds.map (·.key)) (es.map (·.1)) as ∧ ReadsAll s.heap (ds.map (·.val)) (es.map (·.2)) bs ∧ sysModules ∉ as ∧ sysModules ∉ bs
  | [], _, _, _, _, h, k, p => by
    cases h
    cases k
    cases p
    exact ⟨_, _, ReadsAll.nil, ReadsAll.nil, by simp, by simp⟩
  | (kd, d) :: es, _, _, _, hp, h, k, p => by
    have hp' : noLs d = true ∧ noLsKv es = true := by
      have hp : (noLs kd && noLs d && noLsKv es) = true := hp
      rw [Bool.and_eq_true, Bool.and_eq_true] at hp
      exact ⟨hp.1.2, hp.2⟩
    cases h with
    | cons h1 h2 =>
      cases k with
      | cons k1 k2 =>
        cases p with
        | @cons e0 kv0 _ _ p1 p2 p3 =>
          obtain ⟨as, bs, r1, r2, n1, n2⟩ := RpKv.readsN I es _ _ _ hp'.2 h2 k2 p3
          obtain ⟨cs, q, n3⟩ := Rp.readsN I d _ _ hp'.1 h1 (p2 ▸ k1.2)
          rw [← k1.1] at p1
          rename_i kk _ _ _ _ _
          have key : ∃ es, Reads s.heap e0.key (kD kk) es ∧ sysModules ∉ es := by
            rcases keyIs_shape p1 with ⟨i, t, e1, e2⟩ | ⟨x, t, e1, e2⟩
            · have e1 : kk = Sum.inl i := e1
              rw [e1, e2]
              exact ⟨[], Reads.int i t, by simp⟩
            · have e1 : kk = Sum.inr x := e1
              rw [e1, e2]
              exact ⟨[], Reads.str x t, by simp⟩
          obtain ⟨fs, q2, n4⟩ := key
          exact ⟨_, _, ReadsAll.cons q2 r1, ReadsAll.cons q r2, fun z => (List.mem_append.mp z).elim n4 n1, fun z => (List.mem_append.mp z).elim n3 n2⟩
end
def okrN (d : D) : Bool := noLs d && decide (d.depth ≤ 60) && d.showable && decide (d.shown.length ≤ 16000000)
theorem okrN_iff {d : D} (h : okrN d = true) : noLs d = true ∧ d.depth ≤ 60 ∧ d.showable = true ∧ d.shown.length ≤ sizeLine := by
  unfold okrN at h
  rw [Bool.and_eq_true, Bool.and_eq_true, Bool.and_eq_true, decide_eq_true_eq, decide_eq_true_eq] at h
  exact ⟨h.1.1.1, h.1.1.2, h.1.2, sz16 h.2⟩
def rReprV (K : Fg) : V → Hp → VK → Prop := fun x H Q => ∃ d, Rp K H x d ∧ (okr d = true ∨ okrN d = true) ∧ Q (.str d.shown) H
theorem okr_iff {d : D} (h : okr d = true) : d.plain = true ∧ d.depth ≤ 60 ∧ d.showable = true ∧ d.shown.length ≤ sizeLine := by
  unfold okr at h
  rw [Bool.and_eq_true, Bool.and_eq_true, decide_eq_true_eq] at h
  obtain ⟨a, b⟩ := okd_iff.mp h.1.1
  exact ⟨a, b, h.1.2, sz16 h.2⟩
theorem call_reprV {X : Cx} {k : Nat} (hr : Rg k X.A) : CallR X (.builtin "repr") (fun xs H Q => ∃ x, xs = [x] ∧ rReprV X.K x H Q) := by
  intro pins s σ H xs us Q I r h
  obtain ⟨x, rfl, d, hd, ok, q⟩ := h
  obtain ⟨u, rfl, rx⟩ := vals1 r
  have hu := hr.units
  obtain ⟨as, r1, hN, dp, sh, sz⟩ : ∃ as, Reads s.heap u d as ∧ (d.hasDict = true → sysModules ∉ as) ∧ d.depth ≤ 60 ∧ d.showable = true ∧ d.shown.length ≤ sizeLine := by
    rcases ok with ok | ok
    · obtain ⟨pd, dp, sh, sz⟩ := okr_iff ok
      obtain ⟨as, r1⟩ := Rp.reads I d x u pd hd rx
      exact ⟨as, r1, PyData.noDict_hsm (plain_noDict.1 d pd), dp, sh, sz⟩
    · obtain ⟨pd, dp, sh, sz⟩ := okrN_iff ok
      obtain ⟨as, r1, hn⟩ := Rp.readsN I d x u pd hd rx
      exact ⟨as, r1, fun _ => hn, dp, sh, sz⟩
  have seqs : ∀ a, u = .ref a → wpAny (model X.prog X.w) X.A (call (.builtin "repr") [u]) (EP X pins σ Q) X.xe s := fun a e => by
    subst e
    refine repr_of_reads' r1 sh hN hr.g (by omega) (fun _ _ e => e) (fun h' t tk hk => ⟨.str d.shown, H, I.kept hk, ⟨t, rfl⟩, q⟩) sz
  cases r1 with
  | list h1 h2 h3 h4 => exact seqs _ rfl
  | tuple h1 h2 h3 h4 => exact seqs _ rfl
  | dict h1 h2 h3 h4 h5 => exact seqs _ rfl
  | none => exact PySem.P.repr_of_none ⟨.str _, H, I.tok _, ⟨_, rfl⟩, q⟩
  | bool b => exact PySem.P.repr_of_bool ⟨.str _, H, I.tok _, ⟨_, rfl⟩, q⟩
  | int i => exact PySem.P.repr_of_int (by simpa [PyData.showable] using sh) ⟨.str _, H, I.tok _, ⟨_, rfl⟩, q⟩
  | str z => exact PySem.P.repr_of_str ⟨.str _, H, I.tok _, ⟨_, rfl⟩, q⟩ (by simpa [PyData.shown] using sz)
def opRepr : Od → Option Rv
  | .d d => if okr d = true ∨ okrN d = true then some (.d (.str d.shown)) else none
  | _ => none
theorem s_repr {K : Fg} : Op1S K (fun v H Q => ∃ x, [v] = [x] ∧ rReprV K x H Q) opRepr := by
  intro w x o rv Q hx h e q
  unfold opRepr at e
  split at e
  · split at e
    · rename_i d hd
      cases e
      exact ⟨x, rfl, d, h.rp hx, hd, post_str q⟩
    · cases e
  · cases e
/-! ### in, not in, of a list, a tuple -/
def inB (d : D) (xs : List D) : Option Bool := if okd d = true ∧ okd (.list xs) = true then some (xs.any fun y => PyData.eqv y d) else none
/-! ### max, min of a list, a tuple of ints -/
def maxI : List Int → Option Int
  | [] => none
  | n :: ns => some (ns.foldl max n)
def minI : List Int → Option Int
  | [] => none
  | n :: ns => some (ns.foldl min n)
theorem alike_ints {ns : List Int} : PySem.W.AlikeAll (ns.map PyData.int) := by
  refine ⟨fun x hx y hy => ?_, fun x hx => ?_⟩
  · obtain ⟨i, _, rfl⟩ := List.mem_map.mp hx
    obtain ⟨j, _, rfl⟩ := List.mem_map.mp hy
    rfl
  · obtain ⟨i, _, rfl⟩ := List.mem_map.mp hx
    exact nofun
def rBest (K : Fg) (f : List Int → Option Int) : V → Hp → VK → Prop := fun v H Q => ∃ (a : Addr) (ns : List Int) (m : Int), v = V.ref a ∧ (SqL K H a (ns.map V.int) ∨ SqT K H a (ns.map V.int)) ∧ f ns = some m ∧ Q (.int m) H
theorem readsInts {h : Heap} {its : List Value} {ns : List Int} (hi : IntsAre its ns) : ∃ as, ReadsAll h its (ns.map PyData.int) as := by
  induction hi with
  | nil => exact ⟨_, .nil⟩
  | cons n t r ih =>
    obtain ⟨as, r⟩ := ih
    exact ⟨_, .cons (.int _ _) r⟩
theorem foldl_min_le : ∀ (ns : List Int) (n : Int), ns.foldl min n ≤ n ∧ ∀ m, m ∈ ns → ns.foldl min n ≤ m
  | [], n => ⟨Int.le_refl _, fun m h => nomatch h⟩
  | k :: ks, n => by
    obtain ⟨h1, h2⟩ := foldl_min_le ks (min n k)
    refine ⟨Int.le_trans h1 (Int.min_le_left _ _), fun m hm => ?_⟩
    rcases List.mem_cons.mp hm with rfl | hm
    · exact Int.le_trans h1 (Int.min_le_right _ _)
    · exact h2 m hm
theorem foldl_min_mem : ∀ (ns : List Int) (n : Int), ns.foldl min n = n ∨ ns.foldl min n ∈ ns
  | [], n => .inl rfl
  | k :: ks, n => by
    rcases foldl_min_mem ks (min n k) with h | h
    · by_cases hk : n ≤ k
      · exact .inl (h.trans (Int.min_eq_left hk))
      · refine .inr ?_
        show ks.foldl min (min n k) ∈ k :: ks
        rw [h, Int.min_eq_right (by omega)]
        exact List.mem_cons_self ..
    · exact .inr (List.mem_cons_of_mem _ h)
theorem minI_is {ns : List Int} {m : Int} (h1 : m ∈ ns) (h2 : ∀ y, y ∈ ns → m ≤ y) : minI ns = some m := by
  cases ns with
  | nil => cases h1
  | cons n ns =>
    show some (ns.foldl min n) = some m
    obtain ⟨a, b⟩ := foldl_min_le ns n
    have c : ns.foldl min n ≤ m := by
      rcases List.mem_cons.mp h1 with rfl | h1
      · exact a
      · exact b m h1
    have d : m ≤ ns.foldl min n := by
      rcases foldl_min_mem ns n with e | e
      · rw [e]
        exact h2 n (List.mem_cons_self ..)
      · exact h2 _ (List.mem_cons_of_mem _ e)
    rw [Int.le_antisymm d c]
section
variable {X : Cx}
theorem call_minV {k : Nat} (hr : Rg k X.A) (hc : X.calm = true) : CallR X (.builtin "min") (fun xs H Q => ∃ x, xs = [x] ∧ rBest X.K minI x H Q) := by
  intro pins s σ H xs us Q I r h
  obtain ⟨x, rfl, a, ns, m, rfl, hs | hs, hm, q⟩ := h
  · exact cr_min hc pins s σ H _ us Q I r ⟨a, ns, rfl, hs, by cases ns with | nil => cases hm | cons _ _ => exact Nat.succ_pos _, fun m' h1 h2 => by
      rw [minI_is h1 h2] at hm
      cases hm
      exact q⟩
  · obtain ⟨its, rv, hl, _⟩ := I.tuple hs
    rw [Vals.ref1 r]
    cases ns with
    | nil => cases hm
    | cons n ns =>
      cases hm
      obtain ⟨as, ra⟩ := readsInts (h := s.heap) rv.ints
      have hu := hr.units
      refine PySem.W.min_tuple_data (I.ok.hd hc) hl ra (alike_ints (ns := n :: ns)) ?_ fun i v h' tk bs hv hb hk => ?_
      · show X.A.units + 1 + PyData.depthAll (List.map PyData.int (n :: ns)) < cLine
        rw [PySem.W.depth_ints]
        omega
      · have e : PySem.W.minD (.int n) (ns.map .int) = .int (ns.foldl min n) := PySem.W.minD_ints n ns
        rw [e] at hb
        cases hb
        exact ⟨.int _, H, I.kept hk, ⟨_, rfl⟩, q⟩
end
def opBest (f : List Int → Option Int) : Od → Option Rv
  | .d (.list ds) => (ints? ds).bind fun ns => (f ns).bind fun m => some (.d (.int m))
  | .d (.tuple ds) => (ints? ds).bind fun ns => (f ns).bind fun m => some (.d (.int m))
  | _ => none
def opMax : Od → Option Rv := opBest maxI
def opMin : Od → Option Rv := opBest minI
theorem s_best {K : Fg} {f : List Int → Option Int} : Op1S K (fun v H Q => ∃ x, [v] = [x] ∧ rBest K f x H Q) (opBest f) := by
  intro w x o rv Q hx h e q
  unfold opBest at e
  split at e
  · obtain ⟨ns, e1, e2⟩ := Option.bind_eq_some_iff.mp e
    obtain ⟨m, e3, e4⟩ := Option.bind_eq_some_iff.mp e2
    cases e4
    rw [ints?_eq e1] at h
    obtain ⟨p, vs, rfl, hs, ra⟩ := h.list hx
    rw [rp_ints ra] at hs
    exact ⟨_, rfl, p, ns, m, rfl, .inl hs, e3, post_int q⟩
  · obtain ⟨ns, e1, e2⟩ := Option.bind_eq_some_iff.mp e
    obtain ⟨m, e3, e4⟩ := Option.bind_eq_some_iff.mp e2
    cases e4
    rw [ints?_eq e1] at h
    obtain ⟨p, vs, rfl, hs, ra⟩ := h.tup
    rw [rp_ints ra] at hs
    exact ⟨_, rfl, p, ns, m, rfl, .inr (SqT.of (hx _ _ hs)), e3, post_int q⟩
  · cases e
theorem s_min {K : Fg} : Op1S K (fun v H Q => ∃ x, [v] = [x] ∧ rBest K minI x H Q) opMin := s_best
/-! ### sorted(xs, reverse=True), ints -/
def insD (i : Int) : List Int → List Int
  | [] => [i]
  | j :: js => if j ≤ i then i :: j :: js else j :: insD i js
def sortD : List Int → List Int
  | [] => []
  | i :: is => insD i (sortD is)
theorem insD_perm (i : Int) : ∀ js : List Int, (insD i js).Perm (i :: js)
  | [] => .refl _
  | j :: js => by
    unfold insD
    split
    · exact .refl _
    · exact (List.Perm.cons j (insD_perm i js)).trans (List.Perm.swap i j js)
theorem sortD_perm : ∀ js : List Int, (sortD js).Perm js
  | [] => .refl _
  | j :: js => (insD_perm j _).trans (List.Perm.cons j (sortD_perm js))
theorem insD_pw (i : Int) : ∀ js : List Int, js.Pairwise (· ≥ ·) → (insD i js).Pairwise (· ≥ ·)
  | [], _ => by
    show [i].Pairwise _
    simp
  | j :: js, h => by
    have h2 := List.pairwise_cons.mp h
    unfold insD
    split
    · refine List.pairwise_cons.mpr ⟨fun k hk => ?_, h⟩
      rcases List.mem_cons.mp hk with rfl | hk
      · assumption
      · have := h2.1 k hk
        show k ≤ i
        have : k ≤ j := this
        omega
    · refine List.pairwise_cons.mpr ⟨fun k hk => ?_, insD_pw i js h2.2⟩
      have := (insD_perm i js).mem_iff.mp hk
      rcases List.mem_cons.mp this with rfl | hk
      · show k ≤ j
        omega
      · exact h2.1 k hk
theorem sortD_pw : ∀ js : List Int, (sortD js).Pairwise (· ≥ ·)
  | [] => List.Pairwise.nil
  | j :: js => insD_pw j _ (sortD_pw js)
theorem sorted_one {as bs : List Int} (h : as.Perm bs) (ha : as.Pairwise (· ≥ ·)) (hb : bs.Pairwise (· ≥ ·)) : as = bs :=
  h.eq_of_pairwise (fun a b _ _ h1 h2 => Int.le_antisymm h2 h1) ha hb
def opSortedR : Od → Option Rv
  | .d (.list ds) => (ints? ds).bind fun ns => some (.new (.l ((sortD ns).map PyData.int)))
  | _ => none
theorem s_sortedR {K : Fg} : Op1S K (fun v H Q => rSortedKw K true [.bl true] [v] [.bl true] H Q) opSortedR := by
  intro w x o rv Q hx h e q
  unfold opSortedR at e
  split at e
  · obtain ⟨ns, e1, e2⟩ := Option.bind_eq_some_iff.mp e
    cases e2
    rw [ints?_eq e1] at h
    obtain ⟨p, vs, rfl, hs, ra⟩ := h.list hx
    rw [rp_ints ra] at hs
    refine ⟨p, ns, rfl, rfl, hs, fun ns' l h1 h2 hl => ?_⟩
    have e3 : ns' = sortD ns := sorted_one (h1.trans (sortD_perm ns).symm) h2 (sortD_pw ns)
    rw [e3]
    exact post_lst q (rpAll_ints _) hl hx
  · cases e
section
variable {X : Cx} {ec : EC} {W : WX}
theorem e_sortedR {a : Expr} {ca : CE} {p pos kp bp : Pos} {j : Nat} (hm : X.mg "sorted" = none) (ha : Ex X ec W a ca) (hg : Gl X "sorted" := by rfl) (h1 : starEach [a] X.env = (false, eval a X.env) :: starEach [] X.env := by rfl) 
    (he : backTo pos (starEach [a] X.env) = (false, eval a X.env) :: backTo pos (starEach [] X.env) := by rfl) (hpl : (backTo pos (starEach [a] X.env)).any (·.1) = false := by rfl) : Ex X ec W (.Call (.Name "sorted" p) [a] [⟨some "reverse", .Constant (.bool true) j bp, kp⟩] pos) (cOp1 opSortedR ca) :=
  (pe_callBK (cr_sortedRev (b := true)) hg hm (by decide +kernel) (pa_cons ha pa_nil h1) (pk_cons pe_bl pk_nil) (by decide) (by decide) he hpl).imp fun _ _ _ h => op1 s_sortedR h
end
end Vm
namespace Vm
open PySem L2
/-! ### the second draw -/
def cRestB : CS :=
 (cSeq (cIfS (tAnd' (cB (cOp2 opLt (cVar 3) (cOp1 opLen (cOp2 opItem (cVar 0) (cC (.str "cells")))))) (cB (cOp2 opGe (cOp1 opAbs (cVar 4)) (cOp2 opPow (cC (.int 10)) (cC (.int 18))))))
 (cSeq (cPut (cVar 0) (cC (.str "left")) (cOp2 opDiv (cOp1 opAbs (cVar 4)) (cVar 1)))
 (cRet (cOp2 opMod (cOp1 opAbs (cVar 4)) (cVar 1))))
 cNx)
 (cSeq (cSet 5 (cOp2 opMod (cOp2 opMulV (cOp2 opAdd (cOp2 opAdd (cOp2 opMod (cVar 4) (cC (.int 2147483629))) (cOp2 opMulV (cC (.int 104729)) (cVar 3))) (cC (.int 1))) (cC (.int 48271))) (cC (.int 2147483647))))
 (cSeq (cSet 5 (cOp2 opMod (cOp2 opAdd (cOp2 opAdd (cOp2 opMulV (cVar 5) (cVar 5)) (cOp2 opMulV (cC (.int 69621)) (cVar 5))) (cVar 3)) (cC (.int 2147483587))))
 (cSeq (cSet 5 (cOp2 opMod (cOp2 opMulV (cVar 5) (cOp2 opAdd (cOp2 opMod (cVar 5) (cC (.int 65521))) (cC (.int 3)))) (cC (.int 2147483579))))
 (cRet (cOp2 opMod (cOp2 opDiv (cVar 5) (cC (.int 64))) (cVar 1)))))))
theorem restB {cells : List Int} {at' c many : Int} {r : List Cell} {B : Nat} (h63 : cells.length ≤ 63) (ha0 : 0 ≤ at') (haB : at' ≤ B) (hB : B < 1000000) (hm : 0 < many) (hm2 : many.natAbs.log2 < 9000) :
    ∃ v p' v', cRestB ⟨[.c 0, .d (.int many), .u, .d (.int at'), .d (.int c), .u], penC cells (at' + 1) 0 :: r⟩ = .rt (.d (.int v)) ⟨v', p' :: r⟩ ∧ 0 ≤ v ∧ v < many ∧ IsPen (B + 1) p' := by
  have hp : opPow (.d (.int 10)) (.d (.int 18)) = some (.d (.int 1000000000000000000)) := rfl
  obtain ⟨a, ha⟩ : ∃ a : Int, (if c < 0 then -c else c) = a := ⟨_, rfl⟩
  have oa : opAbs (.d (.int c)) = some (.d (.int a)) := by rw [← ha]; rfl
  have ab : 0 ≤ a := by rw [← ha]; split <;> omega
  by_cases h : at' < cells.length ∧ 1000000000000000000 ≤ a
  · refine ⟨a % many, penC cells (at' + 1) (a / many), [.c 0, .d (.int many), .u, .d (.int at'), .d (.int c), .u], ?_, Int.emod_nonneg _ (by omega), Int.emod_lt_of_pos _ hm, cells, at' + 1, _, rfl, h63, by omega, by omega, Int.ediv_nonneg ab (by omega)⟩
    simp [-opAbs_i, oa, cRestB, hp, h.1, h.2, opMod_i hm, opDiv_i hm hm2]
  · have hn : (at' < cells.length → ¬ (1000000000000000000 ≤ a)) := fun a b => h ⟨a, b⟩
    have hc1 : 0 ≤ c % 2147483629 := Int.emod_nonneg _ (by decide)
    have hc2 : c % 2147483629 < 2147483629 := Int.emod_lt_of_pos _ (by decide)
    have m1 : opMulV (.d (.int 104729)) (.d (.int at')) = some (.d (.int (104729 * at'))) := opMul_i (mulOk_small (by omega) (by omega))
    have m2 : opMulV (.d (.int (c % 2147483629 + 104729 * at' + 1))) (.d (.int 48271)) = some (.d (.int ((c % 2147483629 + 104729 * at' + 1) * 48271))) := opMul_i (mulOk_small (by omega) (by omega))
    generalize hx : (c % 2147483629 + 104729 * at' + 1) * 48271 % 2147483647 = x at *
    have hx0 : 0 ≤ x := by rw [← hx]; exact Int.emod_nonneg _ (by decide)
    have hx1 : x < 2147483647 := by rw [← hx]; exact Int.emod_lt_of_pos _ (by decide)
    have m3 : opMulV (.d (.int x)) (.d (.int x)) = some (.d (.int (x * x))) := opMul_i (mulOk_small (by omega) (by omega))
    have m4 : opMulV (.d (.int 69621)) (.d (.int x)) = some (.d (.int (69621 * x))) := opMul_i (mulOk_small (by omega) (by omega))
    generalize hy : (x * x + 69621 * x + at') % 2147483587 = y at *
    have hy0 : 0 ≤ y := by rw [← hy]; exact Int.emod_nonneg _ (by decide)
    have hy1 : y < 2147483587 := by rw [← hy]; exact Int.emod_lt_of_pos _ (by decide)
    have hz0 : 0 ≤ y % 65521 := Int.emod_nonneg _ (by decide)
    have hz1 : y % 65521 < 65521 := Int.emod_lt_of_pos _ (by decide)
    have m5 : opMulV (.d (.int y)) (.d (.int (y % 65521 + 3))) = some (.d (.int (y * (y % 65521 + 3)))) := opMul_i (mulOk_small (by omega) (by omega))
    generalize hw : y * (y % 65521 + 3) % 2147483579 = z at *
    refine ⟨z / 64 % many, penC cells (at' + 1) 0, [.c 0, .d (.int many), .u, .d (.int at'), .d (.int c), .d (.int z)], ?_, Int.emod_nonneg _ (by omega), Int.emod_lt_of_pos _ hm, cells, at' + 1, 0, rfl, h63, by omega, by omega, by omega⟩
    by_cases h1 : at' < cells.length
    · simp [-opAbs_i, oa, cRestB, hp, h1, hn h1, opMod_i hm, opMod_i, opDiv_s, m1, m2, m3, m4, m5, hx, hy, hw]
    · simp [-opAbs_i, oa, cRestB, hp, h1, opMod_i hm, opMod_i, opDiv_s, m1, m2, m3, m4, m5, hx, hy, hw]
theorem drawB : IsDraw fDrawB IsPen := by
  intro B p r many hp hB hm hm2
  obtain ⟨cells, at', left, rfl, h63, ha0, haB, hl⟩ := hp.ex
  unfold fDrawB
  rw [runF_s]
  by_cases h : 0 < left
  · refine ⟨left % many, penC cells at' (left / many), ?_, Int.emod_nonneg _ (by omega), Int.emod_lt_of_pos _ hm, cells, at', left / many, rfl, h63, ha0, by omega, Int.ediv_nonneg hl (by omega)⟩
    simp [cDrawB, h, opMod_i hm, opDiv_i hm hm2]
  · have hl0 : left = 0 := by omega
    subst hl0
    have hb1 : 11 * at' * at' ≤ 11 * 1000000 * 1000000 := Int.mul_le_mul (by omega) (by omega) ha0 (by omega)
    have hb0 : 0 ≤ 11 * at' * at' := Int.mul_nonneg (by omega) ha0
    have m1 : opMulV (.d (.int 11)) (.d (.int at')) = some (.d (.int (11 * at'))) := opMul_i (mulOk_small (by omega) (by omega))
    have m2 : opMulV (.d (.int (11 * at'))) (.d (.int at')) = some (.d (.int (11 * at' * at'))) := opMul_i (mulOk_small (by omega) (by omega))
    have rest : cDrawB = (cSeq (cIfS (cB (cOp2 opGt (cOp2 opItem (cVar 0) (cC (.str "left"))) (cC (.int 0))))
      (cSeq (cSet 2 (cOp2 opMod (cOp2 opItem (cVar 0) (cC (.str "left"))) (cVar 1)))
      (cSeq (cPut (cVar 0) (cC (.str "left")) (cOp2 opDiv (cOp2 opItem (cVar 0) (cC (.str "left"))) (cVar 1)))
      (cRet (cVar 2))))
      cNx)
      (cSeq (cSet 3 (cOp2 opItem (cVar 0) (cC (.str "at"))))
      (cSeq (cPut (cVar 0) (cC (.str "at")) (cOp2 opAdd (cVar 3) (cC (.int 1))))
      (cSeq (cSet 4 (cOp2 opAdd (cOp2 opMulV (cOp2 opMulV (cC (.int 11)) (cVar 3)) (cVar 3)) (cC (.int 5))))
      (cSeq (cIfS (cB (cOp2 opGt (cOp1 opLen (cOp2 opItem (cVar 0) (cC (.str "cells")))) (cC (.int 0))))
      (cSet 4 (cOp2 opIx (cOp2 opItem (cVar 0) (cC (.str "cells"))) (cOp2 opMod (cVar 3) (cOp1 opLen (cOp2 opItem (cVar 0) (cC (.str "cells")))))))
      cNx) cRestB))))) := rfl
    rw [rest]
    by_cases hc : 0 < cells.length
    · have hc' : (0 : Int) < cells.length := by omega
      have hi0 : 0 ≤ at' % cells.length := Int.emod_nonneg _ (by omega)
      have hi1 : at' % cells.length < cells.length := Int.emod_lt_of_pos _ hc'
      obtain ⟨c, hcx⟩ : ∃ c, cells[(at' % (cells.length : Int)).toNat]? = some c := ⟨_, List.getElem?_eq_getElem (by omega)⟩
      have ix := opIx_l (ds := cells.map PyData.int) (i := at' % cells.length) (x := .int c) (atI_nat hi0 (by rw [List.getElem?_map, hcx]; rfl))
      obtain ⟨v, p', v', e, h1, h2, h3⟩ := restB (c := c) (r := r) h63 ha0 haB hB hm hm2
      refine ⟨v, p', ?_, h1, h2, h3⟩
      simp [h, m1, m2, hc, hc', opMod_i hc', ix, e]
    · obtain ⟨v, p', v', e, h1, h2, h3⟩ := restB (c := 11 * at' * at' + 5) (r := r) h63 ha0 haB hB hm hm2
      refine ⟨v, p', ?_, h1, h2, h3⟩
      simp [h, m1, m2, hc, e]
/-! ### lists and tuples of ints -/
theorem plain_ints : ∀ ns : List Int, PyData.plainAll (ns.map PyData.int) = true
  | [] => rfl
  | n :: ns => by
    show PyData.plainAll (.int n :: ns.map PyData.int) = true
    rw [PyData.plainAll, plain_ints ns]
    rfl
theorem okd_intsL (ns : List Int) : okd (.list (ns.map PyData.int)) = true := by
  unfold okd
  rw [Bool.and_eq_true, decide_eq_true_eq]
  refine ⟨by rw [PyData.plain]; exact plain_ints ns, ?_⟩
  show PyData.depthAll (ns.map PyData.int) + 1 ≤ 60
  rw [PySem.W.depth_ints]
  omega
theorem okd_intsT (ns : List Int) : okd (.tuple (ns.map PyData.int)) = true := by
  unfold okd
  rw [Bool.and_eq_true, decide_eq_true_eq]
  refine ⟨by rw [PyData.plain]; exact plain_ints ns, ?_⟩
  show PyData.depthAll (ns.map PyData.int) + 1 ≤ 60
  rw [PySem.W.depth_ints]
  omega
theorem eqv_ints : ∀ as bs : List Int, PyData.eqvAll (as.map PyData.int) (bs.map PyData.int) = decide (as = bs)
  | [], [] => rfl
  | [], b :: bs => rfl
  | a :: as, [] => rfl
  | a :: as, b :: bs => by
    show PyData.eqvAll (.int a :: as.map PyData.int) (.int b :: bs.map PyData.int) = _
    rw [PyData.eqvAll, eqv_ints as bs]
    show ((a == b) && decide (as = bs)) = _
    by_cases h : a = b
    · subst h
      by_cases h2 : as = bs
      · simp [h2]
      · simp [h2]
    · simp [h]
theorem opEq_intsL {as bs : List Int} : opEq (.d (.list (as.map PyData.int))) (.d (.list (bs.map PyData.int))) = some (.d (.bool (decide (as = bs)))) := by
  unfold opEq eqB
  dsimp only
  rw [if_pos ⟨okd_intsL as, okd_intsL bs⟩, show PyData.eqv (.list (as.map PyData.int)) (.list (bs.map PyData.int)) = _ from by rw [PyData.eqv], eqv_ints]
theorem atI_last {α : Type} {xs : List α} {x : α} (h : xs.getLast? = some x) : atI xs (-1) = some x := by
  have hl : xs ≠ [] := fun e => by
    subst e
    cases h
  have h0 : 0 < xs.length := List.length_pos_iff.mpr hl
  unfold atI ixN
  rw [if_neg (by decide), if_pos (by omega)]
  show xs[((xs.length : Int) + -1).toNat]? = some x
  rw [show ((xs.length : Int) + -1).toNat = xs.length - 1 by omega, ← h, List.getLast?_eq_getElem?]
def rangeI (lo : Int) : Nat → List Int
  | 0 => []
  | n + 1 => lo :: rangeI (lo + 1) n
theorem rangeD_eq : ∀ (n : Nat) (lo : Int), rangeD lo n = (rangeI lo n).map PyData.int
  | 0, lo => rfl
  | n + 1, lo => congrArg (PyData.int lo :: ·) (rangeD_eq n (lo + 1))
theorem opAdd_l {xs ys : List D} (h : xs.length + ys.length ≤ 16000000) : opAdd (.d (.list xs)) (.d (.list ys)) = some (.new (.l (xs ++ ys))) := by
  show (if xs.length + ys.length ≤ 16000000 then _ else _) = _
  rw [if_pos h]
@[simp] theorem opSum_il {ns : List Int} : opSum (.d (.list (ns.map PyData.int))) = some (.d (.int ns.sum)) := by
  unfold opSum
  dsimp only
  rw [ints?_map]
@[simp] theorem opSum_it {ns : List Int} : opSum (.d (.tuple (ns.map PyData.int))) = some (.d (.int ns.sum)) := by
  unfold opSum
  dsimp only
  rw [ints?_map]
@[simp] theorem opTuple_l {ds : List D} : opTuple (.d (.list ds)) = some (.d (.tuple ds)) := Eq.trans rfl rfl
@[simp] theorem opTuple_t {ds : List D} : opTuple (.d (.tuple ds)) = some (.d (.tuple ds)) := Eq.trans rfl rfl
@[simp] theorem opList_l {ds : List D} : opList (.d (.list ds)) = some (.new (.l ds)) := Eq.trans rfl rfl
@[simp] theorem opList_t {ds : List D} : opList (.d (.tuple ds)) = some (.new (.l ds)) := Eq.trans rfl rfl
@[simp] theorem opMax_l {ns : List Int} : opMax (.d (.list (ns.map PyData.int))) = (maxI ns).bind fun m => some (.d (.int m)) := by
  unfold opMax opBest
  dsimp only
  rw [ints?_map]
  rfl
@[simp] theorem opMax_t {ns : List Int} : opMax (.d (.tuple (ns.map PyData.int))) = (maxI ns).bind fun m => some (.d (.int m)) := by
  unfold opMax opBest
  dsimp only
  rw [ints?_map]
  rfl
@[simp] theorem opMin_l {ns : List Int} : opMin (.d (.list (ns.map PyData.int))) = (minI ns).bind fun m => some (.d (.int m)) := by
  unfold opMin opBest
  dsimp only
  rw [ints?_map]
  rfl
@[simp] theorem opMin_t {ns : List Int} : opMin (.d (.tuple (ns.map PyData.int))) = (minI ns).bind fun m => some (.d (.int m)) := by
  unfold opMin opBest
  dsimp only
  rw [ints?_map]
  rfl
@[simp] theorem opIsi_d {T : String} {d : D} : opIsi T (.d d) = some (.d (.bool (isiB T (tyN (.d d))))) := Eq.trans rfl rfl
@[simp] theorem opMin2_i {i j : Int} : opMin2 (.d (.int i)) (.d (.int j)) = some (.d (.int (if j < i then j else i))) := Eq.trans rfl rfl
@[simp] theorem opMax2_i {i j : Int} : opMax2 (.d (.int i)) (.d (.int j)) = some (.d (.int (if j > i then j else i))) := Eq.trans rfl rfl
/-- what stands at the end of the cells -/
@[simp] theorem set_last {g : List Cell} {c c' : Cell} : (g ++ [c]).set g.length c' = g ++ [c'] := by
  rw [List.set_append_right _ _ (Nat.le_refl _), Nat.sub_self]
  rfl
theorem fin_cell {m : List Cell} {k : Nat} {s : S} {c : Cell} (h : m.length ≤ k) (h2 : s.m[k]? = some c) (h3 : c ≠ .gone) : fin m (.rt (.ref k) s) = .ok (.new c) (s.m.take m.length) := by
  show (if m.length ≤ k then _ else _) = _
  rw [if_pos h, h2]
  cases c with
  | gone => exact absurd rfl h3
  | l _ => rfl
  | k _ => rfl
  | t _ => rfl
  | r _ => rfl
  | i _ _ _ => rfl
  | g _ => rfl
@[simp] theorem fin_l {m : List Cell} {k : Nat} {s : S} {ds : List D} (h : m.length ≤ k) (h2 : s.m[k]? = some (.l ds)) : fin m (.rt (.ref k) s) = .ok (.new (.l ds)) (s.m.take m.length) := fin_cell h h2 nofun
end Vm
namespace Vm
open PySem L2
/-! ### how many bits -/
def Bs (k : Nat) (x : Int) : Prop := x.natAbs < 2 ^ k
theorem Bs.mono {j k : Nat} {x : Int} (h : Bs j x) (q : j ≤ k) : Bs k x := Nat.lt_of_lt_of_le h (Nat.pow_le_pow_right (by decide) q)
theorem Bs.le {k : Nat} {x y : Int} (h : Bs k y) (q : x.natAbs ≤ y.natAbs) : Bs k x := Nat.lt_of_le_of_lt q h
theorem Bs.mul {j k : Nat} {x y : Int} (h : Bs j x) (q : Bs k y) : Bs (j + k) (x * y) := by
  unfold Bs at *
  rw [Int.natAbs_mul, Nat.pow_add]
  exact Nat.mul_lt_mul'' h q
theorem Bs.add {j k m : Nat} {x y : Int} (h : Bs j x) (q : Bs k y) (h1 : j ≤ m) (h2 : k ≤ m) : Bs (m + 1) (x + y) := by
  have h := h.mono h1
  have q := q.mono h2
  unfold Bs at *
  rw [Nat.pow_succ]
  have := Int.natAbs_add_le x y
  omega
theorem Bs.neg {k : Nat} {x : Int} (h : Bs k x) : Bs k (-x) := by
  unfold Bs at *
  rw [Int.natAbs_neg]
  exact h
theorem Bs.sub {j k m : Nat} {x y : Int} (h : Bs j x) (q : Bs k y) (h1 : j ≤ m) (h2 : k ≤ m) : Bs (m + 1) (x - y) := by
  rw [Int.sub_eq_add_neg]
  exact h.add q.neg h1 h2
theorem Bs.log {k : Nat} {x : Int} (h : Bs k x) : x.natAbs.log2 < k + 1 := log2_lt h
theorem Bs.mulOk {j k : Nat} {x y : Int} (h : Bs j x) (q : Bs k y) (hk : j + k < 90000000) : mulOk x y = true := by
  unfold Vm.mulOk
  rw [decide_eq_true_eq]
  have := h.log
  have := q.log
  omega
/-! ### the greatest common measure -/
def cMeasure : CS := (cSeq (cWh (fun _ => 1000000) (cB (cOp2 opGt (cVar 1) (cC (.int 0))))
 (cPar 0 1 (cVar 1) (cOp2 opMod (cVar 0) (cVar 1))))
 (cRet (cVar 0)))
def fMeasure : Fn := runF 2 cMeasure
theorem two_mod {x y : Nat} (h0 : 0 < y) (h : y ≤ x) : 2 * (x % y) < x := by
  have h1 := Nat.mod_lt x h0
  have h2 := Nat.div_add_mod x y
  have h3 : 1 ≤ x / y := Nat.div_pos h h0
  have h4 : y * 1 ≤ y * (x / y) := Nat.mul_le_mul_left y h3
  omega
theorem measure_ok {a b k : Nat} (hb : b < 2 ^ k) (hk : k < 400000) : fMeasure [.d (.int a), .d (.int b)] [] = .ok (.d (.int (Nat.gcd a b : Nat))) [] := by
  obtain ⟨s', e, q⟩ := whL_inv (t := cB (cOp2 opGt (cVar 1) (cC (.int 0)))) (b := cPar 0 1 (cVar 1) (cOp2 opMod (cVar 0) (cVar 1)))
    (fun k s => ∃ x y j : Nat, s = ⟨[.d (.int x), .d (.int y)], []⟩ ∧ Nat.gcd x y = Nat.gcd a b ∧ ((k = 2 * j ∧ y < 2 ^ j) ∨ (k + 1 = 2 * j ∧ y < x ∧ x < 2 ^ j)))
    (fun s => s = ⟨[.d (.int (Nat.gcd a b : Nat)), .d (.int 0)], []⟩) (fun k s hi => by
      obtain ⟨x, y, j, rfl, hg, hc⟩ := hi
      by_cases hy : y = 0
      · subst hy
        refine .inl ⟨⟨[.d (.int x), .d (.int 0)], []⟩, by simp, ?_⟩
        rw [Nat.gcd_zero_right] at hg
        rw [hg]
      · have hy0 : 0 < y := Nat.pos_of_ne_zero hy
        have hyI : (0 : Int) < (y : Int) := by omega
        have hm := Nat.mod_lt x hy0
        have om : opMod (.d (.int x)) (.d (.int y)) = some (.d (.int ((x % y : Nat) : Int))) := opMod_i hyI
        have hgcd : Nat.gcd y (x % y) = Nat.gcd a b := by
          rw [← hg, Nat.gcd_comm x y, Nat.gcd_rec y x, Nat.gcd_comm]
        suffices hh : ∃ k', k' < k ∧ ∃ j : Nat, ((k' = 2 * j ∧ x % y < 2 ^ j) ∨ (k' + 1 = 2 * j ∧ x % y < y ∧ y < 2 ^ j)) by
          obtain ⟨k', hk', j', hj⟩ := hh
          exact .inr ⟨⟨[.d (.int x), .d (.int y)], []⟩, ⟨[.d (.int y), .d (.int ((x % y : Nat) : Int))], []⟩, k', by simp [hy0], .inl (by simp [om]), hk', ⟨y, x % y, j', rfl, hgcd, hj⟩⟩
        rcases hc with ⟨hk, hlt⟩ | ⟨hk, hlt, hx⟩
        · have hj : j ≠ 0 := fun z => by
            rw [z] at hlt
            have : (2 : Nat) ^ 0 = 1 := rfl
            omega
          exact ⟨2 * j - 1, by omega, j, .inr ⟨by omega, hm, hlt⟩⟩
        · have h2 := two_mod hy0 (Nat.le_of_lt hlt)
          have hj : j = j - 1 + 1 := by omega
          rw [hj, Nat.pow_succ] at hx
          exact ⟨2 * (j - 1), by omega, j - 1, .inl ⟨rfl, by omega⟩⟩) 1000000 (2 * k) ⟨[.d (.int a), .d (.int b)], []⟩ (by omega) ⟨a, b, k, rfl, rfl, .inl ⟨rfl, hb⟩⟩
  unfold fMeasure
  rw [runF_s]
  show fin [] (cSeq _ _ _) = _
  rw [cSeq_s]
  show fin [] ((whL _ _ 1000000 ⟨[.d (.int a), .d (.int b)], []⟩).then _) = _
  rw [e, q]
  simp
/-! ### shares -/
def shD (p q : Int) : D := .tuple [.int p, .int q]
def cShare : CS :=
 (cSeq (cIfS (cB (cOp2 opEq (cVar 1) (cC (.int 0))))
 (cRaise "NoShare")
 cNx)
 (cSeq (cSet 2 (cCallP fMeasure (lCons (cOp1 opAbs (cVar 0)) (lCons (cOp1 opAbs (cVar 1)) lNil))))
 (cSeq (cIfS (cB (cOp2 opLt (cVar 1) (cC (.int 0))))
 (cSet 2 (cOp2 opSub (cC (.int 0)) (cVar 2)))
 cNx)
 (cRet (cTup (cCons (cOp2 opDiv (cVar 0) (cVar 2)) (cCons (cOp2 opDiv (cVar 1) (cVar 2)) cNil)))))))
def fShare : Fn := runF 3 cShare
@[simp] theorem cRaise_s {n : String} {s : S} : cRaise n s = .ex n s := rfl
/-- in lowest terms, of so many bits -/
structure Sh (k : Nat) (p q : Int) : Prop where
  pos : 1 ≤ q
  cop : Int.gcd p q = 1
  bp : Bs k p
  bq : Bs k q
theorem abs_nat (x : Int) : (if x < 0 then -x else x) = ((x.natAbs : Nat) : Int) := by
  split <;> omega
theorem gcd_pos {a b : Int} (h : b ≠ 0) : 0 < Int.gcd a b := Int.gcd_pos_iff.mpr (.inr h)
theorem share_ok {top bot : Int} {j k : Nat} (hb : bot ≠ 0) (ht : Bs j top) (hk : Bs k bot) (hk2 : k ≤ 8900) :
    ∃ p q, fShare [.d (.int top), .d (.int bot)] [] = .ok (.d (shD p q)) [] ∧ Sh (max j k) p q ∧ p * bot = top * q := by
  have hg := gcd_pos (a := top) hb
  obtain ⟨g, hgd⟩ : ∃ g : Nat, g = Int.gcd top bot := ⟨_, rfl⟩
  rw [← hgd] at hg
  obtain ⟨t, ht'⟩ : (g : Int) ∣ top := by rw [hgd]; exact Int.gcd_dvd_left ..
  obtain ⟨u, hu'⟩ : (g : Int) ∣ bot := by rw [hgd]; exact Int.gcd_dvd_right ..
  have hg0 : (0 : Int) < g := by omega
  have hgn : (g : Int) ≠ 0 := by omega
  have hu0 : u ≠ 0 := fun z => hb (by rw [hu', z, Int.mul_zero])
  have e := measure_ok (a := top.natAbs) (b := bot.natAbs) (k := k) hk (by omega)
  have hgg : Nat.gcd top.natAbs bot.natAbs = g := hgd.symm
  rw [hgg] at e
  have cop : Int.gcd t u = 1 := by
    have h1 : Int.gcd top bot = g * Int.gcd t u := by
      rw [ht', hu', Int.gcd_mul_left]
      rfl
    rw [← hgd] at h1
    exact Nat.eq_of_mul_eq_mul_left hg (by rw [← h1, Nat.mul_one])
  have hlt : (g : Int).natAbs.log2 < 9000 := by
    have hb1 : Bs k (g : Int) := hk.le (by
      show g ≤ bot.natAbs
      exact Nat.le_of_dvd (Int.natAbs_pos.mpr hb) (by rw [hgd]; exact Int.natAbs_dvd_natAbs.mpr (Int.gcd_dvd_right ..)))
    have := hb1.log
    omega
  have hat : t.natAbs ≤ top.natAbs := by
    rw [ht', Int.natAbs_mul]
    exact Nat.le_mul_of_pos_left _ hg
  have hau : u.natAbs ≤ bot.natAbs := by
    rw [hu', Int.natAbs_mul]
    exact Nat.le_mul_of_pos_left _ hg
  have o1 : opAbs (.d (.int top)) = some (.d (.int (top.natAbs : Nat))) := by rw [opAbs_i, abs_nat]
  have o2 : opAbs (.d (.int bot)) = some (.d (.int (bot.natAbs : Nat))) := by rw [opAbs_i, abs_nat]
  by_cases hn : bot < 0
  · have hdv : ∀ x : Int, ((g : Int) * x).fdiv (0 - (g : Int)) = -x := fun x => by
      rw [show (g : Int) * x = (0 - (g : Int)) * (-x) by rw [Int.zero_sub, Int.neg_mul_neg], Int.mul_fdiv_cancel_left _ (by omega)]
    have d1 : opDiv (.d (.int top)) (.d (.int (0 - (g : Int)))) = some (.d (.int (-t))) := by
      show (if (0 - (g : Int)) ≠ 0 ∧ (0 - (g : Int)).natAbs.log2 < 9000 then some (Rv.d (.int (fdv top (0 - (g : Int))))) else none) = _
      rw [if_pos ⟨by omega, by rw [Int.zero_sub, Int.natAbs_neg]; exact hlt⟩]
      unfold fdv
      rw [if_neg (by omega), ht', hdv]
    have d2 : opDiv (.d (.int bot)) (.d (.int (0 - (g : Int)))) = some (.d (.int (-u))) := by
      show (if (0 - (g : Int)) ≠ 0 ∧ (0 - (g : Int)).natAbs.log2 < 9000 then some (Rv.d (.int (fdv bot (0 - (g : Int))))) else none) = _
      rw [if_pos ⟨by omega, by rw [Int.zero_sub, Int.natAbs_neg]; exact hlt⟩]
      unfold fdv
      rw [if_neg (by omega), hu', hdv]
    have hun : u < 0 := by
      rcases Int.lt_trichotomy u 0 with h | h | h
      · exact h
      · exact absurd h hu0
      · have := Int.mul_pos hg0 h
        omega
    refine ⟨-t, -u, ?_, ⟨by omega, by rw [Int.gcd_neg, Int.neg_gcd]; exact cop, (ht.le (by rw [Int.natAbs_neg]; exact hat)).mono (Nat.le_max_left ..), (hk.le (by rw [Int.natAbs_neg]; exact hau)).mono (Nat.le_max_right ..)⟩, ?_⟩
    · unfold fShare
      rw [runF_s]
      simp [-opAbs_i, -Int.zero_sub, cShare, o1, o2, e, hn, hb, d1, d2, shD]
    · rw [ht', hu']
      rw [Int.mul_neg, Int.neg_mul, Int.mul_left_comm, Int.mul_assoc]
  · have hbp : 0 < bot := by omega
    have d1 : opDiv (.d (.int top)) (.d (.int g)) = some (.d (.int t)) := by
      rw [opDiv_i hg0 hlt, ht', Int.mul_ediv_cancel_left _ hgn]
    have d2 : opDiv (.d (.int bot)) (.d (.int g)) = some (.d (.int u)) := by
      rw [opDiv_i hg0 hlt, hu', Int.mul_ediv_cancel_left _ hgn]
    have hup : 0 < u := by
      rcases Int.lt_trichotomy u 0 with h | h | h
      · have := Int.mul_neg_of_pos_of_neg hg0 h
        omega
      · exact absurd h hu0
      · exact h
    refine ⟨t, u, ?_, ⟨by omega, cop, (ht.le hat).mono (Nat.le_max_left ..), (hk.le hau).mono (Nat.le_max_right ..)⟩, ?_⟩
    · unfold fShare
      rw [runF_s]
      simp [-opAbs_i, cShare, o1, o2, e, hn, hb, d1, d2, shD]
    · rw [ht', hu']
      rw [Int.mul_left_comm, Int.mul_assoc]
theorem cop_dvd {a b c : Int} (h : a ∣ b * c) (g : Int.gcd a b = 1) : a ∣ c := by
  have h1 : a.natAbs ∣ b.natAbs * c.natAbs := by
    rw [← Int.natAbs_mul]
    exact Int.natAbs_dvd_natAbs.mpr h
  exact Int.natAbs_dvd_natAbs.mp (Nat.Coprime.dvd_of_dvd_mul_left g h1)
/-- shares that stand for the same are the same -/
theorem low_one {p q p' q' : Int} (h : 1 ≤ q) (h' : 1 ≤ q') (c : Int.gcd p q = 1) (c' : Int.gcd p' q' = 1) (e : p * q' = p' * q) : p = p' ∧ q = q' := by
  have d1 : q ∣ q' := by
    have : q ∣ p * q' := ⟨p', by rw [e, Int.mul_comm]⟩
    exact cop_dvd this (by rw [Int.gcd_comm]; exact c)
  have d2 : q' ∣ q := by
    have : q' ∣ p' * q := ⟨p, by rw [← e, Int.mul_comm]⟩
    exact cop_dvd this (by rw [Int.gcd_comm]; exact c')
  have hq : q = q' := Int.le_antisymm (Int.le_of_dvd (by omega) d1) (Int.le_of_dvd (by omega) d2)
  subst hq
  exact ⟨Int.eq_of_mul_eq_mul_right (by omega) e, rfl⟩
end Vm
namespace Vm
open PySem L2
@[simp] theorem sh_0 {p q : Int} : opIx (.d (shD p q)) (.d (.int 0)) = some (.d (.int p)) := rfl
@[simp] theorem sh_1 {p q : Int} : opIx (.d (shD p q)) (.d (.int 1)) = some (.d (.int q)) := rfl
def fPlus : Fn := runF 2 (cRet (cCallP fShare (lCons (cOp2 opAdd (cOp2 opMulV (cOp2 opIx (cVar 0) (cC (.int 0))) (cOp2 opIx (cVar 1) (cC (.int 1)))) (cOp2 opMulV (cOp2 opIx (cVar 1) (cC (.int 0))) (cOp2 opIx (cVar 0) (cC (.int 1))))) (lCons (cOp2 opMulV (cOp2 opIx (cVar 0) (cC (.int 1))) (cOp2 opIx (cVar 1) (cC (.int 1)))) lNil))))
def fMinus : Fn := runF 2 (cRet (cCallP fShare (lCons (cOp2 opSub (cOp2 opMulV (cOp2 opIx (cVar 0) (cC (.int 0))) (cOp2 opIx (cVar 1) (cC (.int 1)))) (cOp2 opMulV (cOp2 opIx (cVar 1) (cC (.int 0))) (cOp2 opIx (cVar 0) (cC (.int 1))))) (lCons (cOp2 opMulV (cOp2 opIx (cVar 0) (cC (.int 1))) (cOp2 opIx (cVar 1) (cC (.int 1)))) lNil))))
def fTimes : Fn := runF 2 (cRet (cCallP fShare (lCons (cOp2 opMulV (cOp2 opIx (cVar 0) (cC (.int 0))) (cOp2 opIx (cVar 1) (cC (.int 0)))) (lCons (cOp2 opMulV (cOp2 opIx (cVar 0) (cC (.int 1))) (cOp2 opIx (cVar 1) (cC (.int 1)))) lNil))))
def cTotal : CS := (cSeq (cSet 1 (cTup (cCons (cC (.int 0)) (cCons (cC (.int 1)) cNil))))
 (cSeq (cFor (ciSeq (cVar 0)) (tgN 2)
 (cSet 1 (cCallP fPlus (lCons (cVar 1) (lCons (cVar 2) lNil)))))
 (cRet (cVar 1))))
def fTotal : Fn := runF 3 cTotal
section
variable {j k : Nat} {p1 q1 p2 q2 : Int}
theorem Sh.mono (h : Sh j p1 q1) (hk : j ≤ k) : Sh k p1 q1 := ⟨h.pos, h.cop, h.bp.mono hk, h.bq.mono hk⟩
theorem Sh.neg (h : Sh j p1 q1) : Sh j (-p1) q1 := ⟨h.pos, by rw [Int.neg_gcd]; exact h.cop, h.bp.neg, h.bq⟩
theorem plus_ok (a : Sh j p1 q1) (b : Sh k p2 q2) (hk : j + k ≤ 8000) : ∃ p q, fPlus [.d (shD p1 q1), .d (shD p2 q2)] [] = .ok (.d (shD p q)) [] ∧ Sh (j + k + 1) p q ∧ p * (q1 * q2) = (p1 * q2 + p2 * q1) * q := by
  have a1 := a.pos
  have b1 := b.pos
  have hb : q1 * q2 ≠ 0 := Int.mul_ne_zero (by omega) (by omega)
  have s1 : Bs (j + k + 1) (p1 * q2 + p2 * q1) := (a.bp.mul b.bq).add (b.bp.mul a.bq) (Nat.le_refl _) (by omega)
  obtain ⟨p, q, e, h, r⟩ := share_ok hb s1 (a.bq.mul b.bq) (by omega)
  refine ⟨p, q, ?_, h.mono (by omega), r⟩
  have m1 := opMul_i (a.bp.mulOk b.bq (by omega))
  have m2 := opMul_i (b.bp.mulOk a.bq (by omega))
  have m3 := opMul_i (a.bq.mulOk b.bq (by omega))
  unfold fPlus
  rw [runF_s]
  simp [m1, m2, m3, e]
theorem times_ok (a : Sh j p1 q1) (b : Sh k p2 q2) (hk : j + k ≤ 8000) : ∃ p q, fTimes [.d (shD p1 q1), .d (shD p2 q2)] [] = .ok (.d (shD p q)) [] ∧ Sh (j + k) p q ∧ p * (q1 * q2) = (p1 * p2) * q := by
  have a1 := a.pos
  have b1 := b.pos
  have hb : q1 * q2 ≠ 0 := Int.mul_ne_zero (by omega) (by omega)
  obtain ⟨p, q, e, h, r⟩ := share_ok hb (a.bp.mul b.bp) (a.bq.mul b.bq) (by omega)
  refine ⟨p, q, ?_, h.mono (by omega), r⟩
  have m1 := opMul_i (a.bp.mulOk b.bp (by omega))
  have m3 := opMul_i (a.bq.mulOk b.bq (by omega))
  unfold fTimes
  rw [runF_s]
  simp [m1, m3, e]
end
theorem abs_s {x : Int} : opAbs (.d (.int x)) = some (.d (.int (x.natAbs : Nat))) := by rw [opAbs_i, abs_nat]
/-- the law's reduced -/
def cReduced : CS :=
 (cSeq (cSet 2 (cCallP fMeasure (lCons (cOp1 opAbs (cVar 0)) (lCons (cVar 1) lNil))))
 (cRet (cTup (cCons (cOp2 opDiv (cVar 0) (cVar 2)) (cCons (cOp2 opDiv (cVar 1) (cVar 2)) cNil)))))
def fReduced : Fn := runF 3 cReduced
theorem reduced_ok {top bot : Int} {j k : Nat} (hb : 1 ≤ bot) (ht : Bs j top) (hk : Bs k bot) (hk2 : k ≤ 8900) :
    ∃ p q, fReduced [.d (.int top), .d (.int bot)] [] = .ok (.d (shD p q)) [] ∧ Sh (max j k) p q ∧ p * bot = top * q := by
  have hb0 : bot ≠ 0 := by omega
  have hg := gcd_pos (a := top) hb0
  obtain ⟨g, hgd⟩ : ∃ g : Nat, g = Int.gcd top bot := ⟨_, rfl⟩
  rw [← hgd] at hg
  obtain ⟨t, ht'⟩ : (g : Int) ∣ top := by rw [hgd]; exact Int.gcd_dvd_left ..
  obtain ⟨u, hu'⟩ : (g : Int) ∣ bot := by rw [hgd]; exact Int.gcd_dvd_right ..
  have hg0 : (0 : Int) < g := by omega
  have hgn : (g : Int) ≠ 0 := by omega
  have e := measure_ok (a := top.natAbs) (b := bot.natAbs) (k := k) hk (by omega)
  have hgg : Nat.gcd top.natAbs bot.natAbs = g := hgd.symm
  rw [hgg, show ((bot.natAbs : Nat) : Int) = bot by omega] at e
  have cop : Int.gcd t u = 1 := by
    have h1 : Int.gcd top bot = g * Int.gcd t u := by
      rw [ht', hu', Int.gcd_mul_left]
      rfl
    rw [← hgd] at h1
    exact Nat.eq_of_mul_eq_mul_left hg (by rw [← h1, Nat.mul_one])
  have hlt : (g : Int).natAbs.log2 < 9000 := by
    have hb1 : Bs k (g : Int) := hk.le (by
      show g ≤ bot.natAbs
      exact Nat.le_of_dvd (Int.natAbs_pos.mpr hb0) (by rw [hgd]; exact Int.natAbs_dvd_natAbs.mpr (Int.gcd_dvd_right ..)))
    have := hb1.log
    omega
  have hat : t.natAbs ≤ top.natAbs := by
    rw [ht', Int.natAbs_mul]
    exact Nat.le_mul_of_pos_left _ hg
  have hau : u.natAbs ≤ bot.natAbs := by
    rw [hu', Int.natAbs_mul]
    exact Nat.le_mul_of_pos_left _ hg
  have d1 : opDiv (.d (.int top)) (.d (.int g)) = some (.d (.int t)) := by
    rw [opDiv_i hg0 hlt, ht', Int.mul_ediv_cancel_left _ hgn]
  have d2 : opDiv (.d (.int bot)) (.d (.int g)) = some (.d (.int u)) := by
    rw [opDiv_i hg0 hlt, hu', Int.mul_ediv_cancel_left _ hgn]
  have hup : 0 < u := by
    rcases Int.lt_trichotomy u 0 with h | h | h
    · have := Int.mul_neg_of_pos_of_neg hg0 h
      omega
    · rw [h, Int.mul_zero] at hu'
      omega
    · exact h
  refine ⟨t, u, ?_, ⟨by omega, cop, (ht.le hat).mono (Nat.le_max_left ..), (hk.le hau).mono (Nat.le_max_right ..)⟩, ?_⟩
  · unfold fReduced
    rw [runF_s]
    simp [-opAbs_i, cReduced, abs_s, e, d1, d2, shD]
  · rw [ht', hu']
    rw [Int.mul_left_comm, Int.mul_assoc]
@[simp] theorem isiB_tt : isiB "tuple" "tuple" = true := rfl
end Vm
namespace Vm
open PySem L2 PySem.Spec PyProof.Rows
/-! ### methods that change nothing, of one argument -/
def tyO (T : String) : Od → Bool
  | .d (.list _) => T == "list"
  | .d (.str _) => T == "str"
  | .c (.k _) => T == "dict"
  | _ => false
def cMt1 (T : String) (f : Od → Od → Option Rv) (co c : CE) : CE := fun s => (cv co s).bind fun x s1 => opt (x.od s1.m) fun o1 => if tyO T o1 = true then (cv c s1).bind fun y s2 => opt (x.od s2.m) fun o => opt (y.od s2.m) fun o' => opt (f o o') fun rv => .ok rv s2 else .bad
section
variable {X : Cx} {ec : EC} {W : WX}
/-! ### xs.count(x) -/
/-! ### xs.index(x), flat items -/
def mtK (T : String) (f : Od → Od → Option Rv) (c : CE) (x : Rv) : Option Od → S → R Rv
  | some o1, s1 => if tyO T o1 = true then (cv c s1).bind (kOp2b f x) else .bad
  | none, _ => .bad
@[simp] theorem mtK_s {T : String} {f : Od → Od → Option Rv} {c : CE} {x : Rv} {o1 : Od} {s1 : S} : mtK T f c x (some o1) s1 = if tyO T o1 = true then (cv c s1).bind (kOp2b f x) else .bad := Eq.trans rfl rfl
def kMt (T : String) (f : Od → Od → Option Rv) (c : CE) (x : Rv) (s1 : S) : R Rv := mtK T f c x (x.od s1.m) s1
@[simp] theorem kMt_s {T : String} {f : Od → Od → Option Rv} {c : CE} {x : Rv} {s1 : S} : kMt T f c x s1 = mtK T f c x (x.od s1.m) s1 := Eq.trans rfl rfl
@[simp] theorem cMt1_s {T : String} {f : Od → Od → Option Rv} {co c : CE} {s : S} : cMt1 T f co c s = (cv co s).bind (kMt T f c) := by
  unfold cMt1
  congr 1
  funext x s1
  rw [kMt_s]
  cases x.od s1.m with
  | none => rfl
  | some o1 =>
    show (if tyO T o1 = true then _ else _) = _
    rw [mtK_s]
    split
    · congr 1
      funext y s2
      exact opt_od2
    · rfl
@[simp] theorem tyO_l {ds : List D} : tyO "list" (.d (.list ds)) = true := Eq.trans rfl rfl
/-! ### xs[::-1] -/
def opRev : Od → Option Rv
  | .d (.list ds) => some (.new (.l ds.reverse))
  | _ => none
end
end Vm
namespace Vm
open PySem L2
/-! ### shares by what they stand for -/
theorem opNe_self {d : D} (h : okd d = true) : opNe (.d d) (.d d) = some (.d (.bool false)) := by
  have e : eqB d d = some true := by
    unfold eqB
    split
    · simp
    · rw [if_pos ⟨h, h⟩, SeqAt.eqv_refl_plain _ (okd_iff.mp h).1]
  unfold opNe
  dsimp only
  rw [e]
  rfl
theorem opEq_self {d : D} (h : okd d = true) : opEq (.d d) (.d d) = some (.d (.bool true)) := by
  have e : eqB d d = some true := by
    unfold eqB
    split
    · simp
    · rw [if_pos ⟨h, h⟩, SeqAt.eqv_refl_plain _ (okd_iff.mp h).1]
  unfold opEq
  dsimp only
  rw [e]
structure Tell (k : Nat) (d : D) (x : Rat) : Prop where
  ex : ∃ p q, d = shD p q ∧ Sh k p q ∧ (p : Rat) = x * q
theorem rat_pos {q : Int} (h : 1 ≤ q) : (0 : Rat) < q := Rat.intCast_pos.mpr (by omega)
theorem rat_ne {q : Int} (h : 1 ≤ q) : (q : Rat) ≠ 0 := fun z => by
  have := Rat.intCast_eq_zero_iff.mp z
  omega
theorem Tell.okd {k : Nat} {d : D} {x : Rat} (h : Tell k d x) : Vm.okd d = true := by
  obtain ⟨p, q, rfl, _⟩ := h.ex
  exact okd_intsT [p, q]
theorem Tell.ne {k : Nat} {d : D} {x : Rat} (h : Tell k d x) : opNe (.d d) (.d d) = some (.d (.bool false)) := opNe_self h.okd
theorem Tell.eq {k : Nat} {d : D} {x : Rat} (h : Tell k d x) : opEq (.d d) (.d d) = some (.d (.bool true)) := opEq_self h.okd
theorem Tell.mono {j k : Nat} {d : D} {x : Rat} (h : Tell j d x) (q : j ≤ k) : Tell k d x := by
  obtain ⟨p, q', e, s, r⟩ := h.ex
  exact ⟨p, q', e, s.mono q, r⟩
theorem Tell.to {k : Nat} {d : D} {x y : Rat} (h : Tell k d x) (e : x = y) : Tell k d y := e ▸ h
theorem Sh.tell {k : Nat} {p q : Int} (h : Sh k p q) : ∃ x : Rat, Tell k (shD p q) x ∧ (p : Rat) = x * q := by
  have hq := rat_ne h.pos
  refine ⟨(p : Rat) / q, ⟨p, q, rfl, h, ?_⟩, ?_⟩ <;> grind
theorem Tell.one {j k : Nat} {d e : D} {x : Rat} (h : Tell j d x) (g : Tell k e x) : d = e := by
  obtain ⟨p, q, rfl, s, r⟩ := h.ex
  obtain ⟨p', q', rfl, s', r'⟩ := g.ex
  have : p * q' = p' * q := by
    rw [← Rat.intCast_inj, Rat.intCast_mul, Rat.intCast_mul, r, r']
    grind
  obtain ⟨rfl, rfl⟩ := low_one s.pos s'.pos s.cop s'.cop this
  rfl
theorem Tell.uniq {j k : Nat} {d : D} {x y : Rat} (h : Tell j d x) (g : Tell k d y) : x = y := by
  obtain ⟨p, q, rfl, s, r⟩ := h.ex
  obtain ⟨p', q', e, s', r'⟩ := g.ex
  have e1 : p = p' ∧ q = q' := by
    unfold shD at e
    injection e with e
    injection e with e2 e3
    injection e2 with e2
    injection e3 with e3 _
    injection e3 with e3
    exact ⟨e2, e3⟩
  obtain ⟨rfl, rfl⟩ := e1
  have := rat_ne s.pos
  grind
section
variable {j k : Nat} {a b : D} {x y : Rat}
theorem plus_t (h : Tell j a x) (g : Tell k b y) (hk : j + k ≤ 8000) : ∃ d, fPlus [.d a, .d b] [] = .ok (.d d) [] ∧ Tell (j + k + 1) d (x + y) := by
  obtain ⟨p1, q1, rfl, s1, r1⟩ := h.ex
  obtain ⟨p2, q2, rfl, s2, r2⟩ := g.ex
  obtain ⟨p, q, e, s, r⟩ := plus_ok s1 s2 hk
  refine ⟨shD p q, e, p, q, rfl, s, ?_⟩
  have h1 := rat_ne s1.pos
  have h2 := rat_ne s2.pos
  rw [← Rat.intCast_inj, Rat.intCast_mul, Rat.intCast_mul, Rat.intCast_mul, Rat.intCast_add, Rat.intCast_mul, Rat.intCast_mul, r1, r2] at r
  have h3 : (q1 : Rat) * q2 ≠ 0 := by grind
  grind
theorem times_t (h : Tell j a x) (g : Tell k b y) (hk : j + k ≤ 8000) : ∃ d, fTimes [.d a, .d b] [] = .ok (.d d) [] ∧ Tell (j + k) d (x * y) := by
  obtain ⟨p1, q1, rfl, s1, r1⟩ := h.ex
  obtain ⟨p2, q2, rfl, s2, r2⟩ := g.ex
  obtain ⟨p, q, e, s, r⟩ := times_ok s1 s2 hk
  refine ⟨shD p q, e, p, q, rfl, s, ?_⟩
  have h1 := rat_ne s1.pos
  have h2 := rat_ne s2.pos
  rw [← Rat.intCast_inj, Rat.intCast_mul, Rat.intCast_mul, Rat.intCast_mul, Rat.intCast_mul, r1, r2] at r
  have h3 : (q1 : Rat) * q2 ≠ 0 := by grind
  grind
end
theorem tell_none : Tell 1 (shD 0 1) 0 := ⟨0, 1, rfl, ⟨by decide, by decide, show (0 : Int).natAbs < 2 ^ 1 by decide, show (1 : Int).natAbs < 2 ^ 1 by decide⟩, by rw [Rat.zero_mul]; rfl⟩
theorem tell_whole : Tell 1 (shD 1 1) 1 := ⟨1, 1, rfl, ⟨by decide, by decide, show (1 : Int).natAbs < 2 ^ 1 by decide, show (1 : Int).natAbs < 2 ^ 1 by decide⟩, by rw [Rat.one_mul]⟩
end Vm
namespace Vm
open PySem L2 PySem.Spec PyProof.Rows
/-! ### how long a repr is -/
structure Fits (d : D) (n m : Nat) : Prop where
  len : d.shown.length ≤ n
  sh : d.showable = true
  pl : d.plain = true
  dp : d.depth ≤ m
theorem Fits.mono {d : D} {n m n' m' : Nat} (h : Fits d n m) (a : n ≤ n') (b : m ≤ m') : Fits d n' m' := ⟨Nat.le_trans h.len a, h.sh, h.pl, Nat.le_trans h.dp b⟩
theorem Fits.int {k : Nat} {i : Int} (h : Bs k i) (hk : k ≤ 1918) : Fits (.int i) (k + 2) 0 := by
  have hl := h.log
  refine ⟨?_, ?_, rfl, Nat.le_refl _⟩
  · have e := int_text_length_le (k := k + 1) (by omega) hl
    show (Str.ofString (toString i)).length ≤ k + 2
    rw [PySem.ofString_length]
    exact e
  · simp only [PyData.showable, decide_eq_true_eq]
    omega
theorem Fits.none : Fits .none 4 0 := ⟨by decide, rfl, rfl, by decide⟩
theorem Fits.bool {b : Bool} : Fits (.bool b) 5 0 := ⟨by cases b <;> decide, rfl, rfl, Nat.le_refl _⟩
theorem fits_all {n m : Nat} : ∀ {ds : List D}, (∀ d, d ∈ ds → Fits d n m) → piled (PyData.shownAll ds) ≤ ds.length * (n + 2) ∧ PyData.showableAll ds = true ∧ PyData.plainAll ds = true ∧ PyData.depthAll ds ≤ m
  | [], _ => ⟨Nat.zero_le _, rfl, rfl, Nat.zero_le _⟩
  | d :: ds, h => by
    obtain ⟨a, b, c, e⟩ := fits_all (ds := ds) fun x hx => h x (List.mem_cons_of_mem _ hx)
    have h0 := h d (List.mem_cons_self ..)
    refine ⟨?_, ?_, ?_, ?_⟩
    · show piled (d.shown :: PyData.shownAll ds) ≤ _
      rw [piled_cons, List.length_cons, Nat.add_mul]
      have := h0.len
      omega
    · simp only [PyData.showableAll, h0.sh, b, Bool.and_self]
    · simp only [PyData.plainAll, h0.pl, c, Bool.and_self]
    · show max d.depth (PyData.depthAll ds) ≤ m
      exact Nat.max_le.mpr ⟨h0.dp, e⟩
theorem listText_le (ts : List Str) : (listText ts).length ≤ piled ts + 2 := by
  unfold listText
  cases ts with
  | nil => decide
  | cons t r =>
    show (textFrom 1 ("[" ++ "" ++ t) r ++ "]").length ≤ _
    rw [Str.length_append, textFrom_length_pos _ _ _ (by decide), piled_cons, Str.length_append, Str.length_append]
    show (("[" : Str).length + ("" : Str).length + t.length + piled r) + ("]" : Str).length ≤ _
    have h1 : ("[" : Str).length = 1 := rfl
    have h2 : ("" : Str).length = 0 := rfl
    have h3 : ("]" : Str).length = 1 := rfl
    omega
theorem Fits.list {n m : Nat} {ds : List D} (h : ∀ d, d ∈ ds → Fits d n m) : Fits (.list ds) (ds.length * (n + 2) + 2) (m + 1) := by
  obtain ⟨a, b, c, e⟩ := fits_all h
  refine ⟨?_, by simp only [PyData.showable]; exact b, by rw [PyData.plain]; exact c, Nat.succ_le_succ e⟩
  simp only [PyData.shown]
  have := listText_le (PyData.shownAll ds)
  omega
theorem Fits.tuple {n m : Nat} {ds : List D} (h : ∀ d, d ∈ ds → Fits d n m) : Fits (.tuple ds) (ds.length * (n + 2) + 2) (m + 1) := by
  obtain ⟨a, b, c, e⟩ := fits_all h
  refine ⟨?_, by simp only [PyData.showable]; exact b, by rw [PyData.plain]; exact c, Nat.succ_le_succ e⟩
  simp only [PyData.shown]
  have := fmt_text (PyData.shownAll ds)
  omega
theorem Sh.fits {k : Nat} {p q : Int} (h : Sh k p q) (hk : k ≤ 1918) : Fits (shD p q) (2 * (k + 4) + 2) 1 :=
  Fits.tuple (ds := [.int p, .int q]) (n := k + 2) (m := 0) fun d hd => by
    simp at hd
    rcases hd with rfl | rfl
    · exact .int h.bp hk
    · exact .int h.bq hk
theorem Tell.fits {k : Nat} {d : D} {x : Rat} (h : Tell k d x) (hk : k ≤ 1918) : Fits d (2 * (k + 4) + 2) 1 := by
  obtain ⟨p, q, rfl, s, _⟩ := h.ex
  exact s.fits hk
theorem opRepr_s {d : D} (h : okr d = true) : opRepr (.d d) = some (.d (.str d.shown)) := by
  show (if okr d = true ∨ okrN d = true then _ else _) = _
  rw [if_pos (.inl h)]
theorem opRepr_n {d : D} (h : okrN d = true) : opRepr (.d d) = some (.d (.str d.shown)) := by
  show (if okr d = true ∨ okrN d = true then _ else _) = _
  rw [if_pos (.inr h)]
theorem str_eq {z : Str} : opEq (.d (.str z)) (.d (.str z)) = some (.d (.bool true)) := opEq_self rfl
theorem str_ne {z : Str} : opNe (.d (.str z)) (.d (.str z)) = some (.d (.bool false)) := opNe_self rfl
@[simp] theorem opRev_l {ds : List D} : opRev (.d (.list ds)) = some (.new (.l ds.reverse)) := Eq.trans rfl rfl
@[simp] theorem opIs_b {neg a b : Bool} : opIs neg (.d (.bool a)) (.d (.bool b)) = some (.d (.bool (if neg then !decide (a = b) else decide (a = b)))) := Eq.trans rfl rfl
@[simp] theorem opIs_n {neg : Bool} {d : D} : opIs neg (.d d) (.d .none) = some (.d (.bool (if neg then !isNone d else isNone d))) := Eq.trans rfl rfl
/-! ### targets that are tuples -/
@[simp] theorem tgNil_s {s : S} : tgNil [] s = some s := Eq.trans rfl rfl
@[simp] theorem tgTup_s {n : Nat} {t : Tgs} {ds : List D} {s : S} (h : ds.length = n) : tgTup n t (.tuple ds) s = t ds s := by
  show (if ds.length = n then _ else _) = _
  rw [if_pos h]
def asgR (tg : Tg) : Rv → S → Out
  | .d d, s1 => match tg d s1 with
    | some s2 => .nx s2
    | none => .bad
  | _, _ => .bad
@[simp] theorem cAsg_s {tg : Tg} {c : CE} {s : S} : cAsg tg c s = (cv c s).out (asgR tg) := by
  unfold cAsg
  congr 1
  funext a s1
  cases a <;> rfl
theorem asg_3 {i j k : Nat} {x y z : D} {s : S} : asgR (tgTup 3 (tgCons (tgN i) (tgCons (tgN j) (tgCons (tgN k) tgNil)))) (.d (.tuple [x, y, z])) s = .nx ⟨((s.v.set i (.d x)).set j (.d y)).set k (.d z), s.m⟩ := rfl
/-- a cell becomes data -/
theorem cFz_l {i n : Nat} {s : S} {ds : List D} (h : s.v[i]? = some (.c n)) (h2 : s.m[n]? = some (.l ds)) : cFz i s = .ok (.d (.list ds)) ⟨s.v.set i (.d (.list ds)), s.m.set n .gone⟩ := by
  unfold cFz
  rw [h]
  dsimp only
  rw [h2]
end Vm
namespace Vm
open PySem L2
/-! ### stands that are drawn -/
theorem rep_map {n : Nat} {i : Int} : List.replicate n (PyData.int i) = (List.replicate n i).map PyData.int := by
  rw [List.map_replicate]
/-! ### the first of the least -/
structure FirstMin (xs : List Int) (b : Nat) : Prop where
  lt : b < xs.length
  le : ∀ (j : Nat) (y : Int), xs[j]? = some y → xs[b]?.getD 0 ≤ y
  fst : ∀ (j : Nat) (y : Int), j < b → xs[j]? = some y → xs[b]?.getD 0 < y
theorem FirstMin.one {xs : List Int} {a b : Nat} (h : FirstMin xs a) (g : FirstMin xs b) : a = b := by
  have ha : xs[a]? = some (xs[a]?.getD 0) := by rw [List.getElem?_eq_getElem h.lt]; rfl
  have hb : xs[b]? = some (xs[b]?.getD 0) := by rw [List.getElem?_eq_getElem g.lt]; rfl
  rcases Nat.lt_trichotomy a b with q | q | q
  · have := g.fst a _ q ha
    have := h.le b _ hb
    omega
  · exact q
  · have := h.fst b _ q hb
    have := g.le a _ ha
    omega
end Vm
namespace Vm
open PySem L2
/-- the first of the least of the first i -/
structure PreMin (xs : List Int) (i b : Nat) : Prop where
  lt : b < xs.length
  le : ∀ (j : Nat) (y : Int), j < i → xs[j]? = some y → xs[b]?.getD 0 ≤ y
  fst : ∀ (j : Nat) (y : Int), j < b → xs[j]? = some y → xs[b]?.getD 0 < y
theorem PreMin.start {xs : List Int} (h : xs ≠ []) : PreMin xs 0 0 := ⟨List.length_pos_iff.mpr h, (fun j y hj => nomatch hj), (fun j y hj => nomatch hj)⟩
theorem PreMin.take {xs : List Int} {i b : Nat} (h : PreMin xs i b) (hi : i < xs.length) (hlt : xs[i] < xs[b]'h.lt) : PreMin xs (i + 1) i := by
  have hx : xs[i]? = some xs[i] := List.getElem?_eq_getElem hi
  have hxb : xs[b]? = some (xs[b]'h.lt) := List.getElem?_eq_getElem h.lt
  refine ⟨hi, fun j y hj hy => ?_, fun j y hj hy => ?_⟩
  · rw [hx]
    show xs[i] ≤ y
    by_cases hji : j = i
    · subst hji
      rw [hx] at hy
      cases hy
      omega
    · have := h.le j y (by omega) hy
      rw [hxb] at this
      have : xs[b]'h.lt ≤ y := this
      omega
  · rw [hx]
    show xs[i] < y
    have := h.le j y hj hy
    rw [hxb] at this
    have : xs[b]'h.lt ≤ y := this
    omega
theorem PreMin.keep {xs : List Int} {i b : Nat} (h : PreMin xs i b) (hi : i < xs.length) (hlt : ¬ xs[i] < xs[b]'h.lt) : PreMin xs (i + 1) b := by
  have hx : xs[i]? = some xs[i] := List.getElem?_eq_getElem hi
  have hxb : xs[b]? = some (xs[b]'h.lt) := List.getElem?_eq_getElem h.lt
  refine ⟨h.lt, fun j y hj hy => ?_, h.fst⟩
  by_cases hji : j = i
  · subst hji
    rw [hx] at hy
    cases hy
    rw [hxb]
    show xs[b]'h.lt ≤ xs[j]
    omega
  · exact h.le j y (by omega) hy
end Vm
namespace Vm
open PySem L2 PySem.Spec PyProof.Rows
/-! ### an empty dict -/
def cNewK : CE := fun s => .ok (.new (.k [])) s
@[simp] theorem cNewK_s {s : S} : cNewK s = .ok (.new (.k [])) s := Eq.trans rfl rfl
end Vm
namespace Vm
open PySem L2 PySem.Spec PyProof.Rows
/-! ### a < b < c, run -/
def kCh3 (g : Od → Od → Option Rv) (y z : Rv) (s3 : S) : R Rv := opt (y.od s3.m) fun p => opt (z.od s3.m) fun p' => opt (g p p') fun rv' => .ok rv' s3
def kChB (g : Od → Od → Option Rv) (c : CE) (y : Rv) (o : Option Rv) (s2 : S) : R Rv := opt o fun rv => match rv with
  | .d (.bool true) => (cv c s2).bind (kCh3 g y)
  | .d (.bool false) => .ok (.d (.bool false)) s2
  | _ => .bad
def kCh2 (f g : Od → Od → Option Rv) (c : CE) (x y : Rv) (s2 : S) : R Rv := opt (x.od s2.m) fun o => opt (y.od s2.m) fun o' => kChB g c y (f o o') s2
def kCh1 (f g : Od → Od → Option Rv) (b c : CE) (x : Rv) (s1 : S) : R Rv := (cv b s1).bind (kCh2 f g c x)
@[simp] theorem kCh3_s {g : Od → Od → Option Rv} {y z : D} {s : S} : kCh3 g (.d y) (.d z) s = rvK (g (.d y) (.d z)) s := by
  unfold kCh3
  rw [od_d, opt_some, od_d, opt_some]
  cases g (.d y) (.d z) <;> rfl
@[simp] theorem kChB_s {g : Od → Od → Option Rv} {c : CE} {y : Rv} {b : Bool} {s : S} : kChB g c y (some (.d (.bool b))) s = if b = true then (cv c s).bind (kCh3 g y) else .ok (.d (.bool false)) s := by
  cases b <;> rfl
@[simp] theorem kCh2_s {f g : Od → Od → Option Rv} {c : CE} {x y : D} {s : S} : kCh2 f g c (.d x) (.d y) s = kChB g c (.d y) (f (.d x) (.d y)) s := Eq.trans rfl rfl
@[simp] theorem kCh1_s {f g : Od → Od → Option Rv} {b c : CE} {x : Rv} {s : S} : kCh1 f g b c x s = (cv b s).bind (kCh2 f g c x) := Eq.trans rfl rfl
@[simp] theorem cChain_s {f g : Od → Od → Option Rv} {a b c : CE} {s : S} : cChain f g a b c s = (cv a s).bind (kCh1 f g b c) := Eq.trans rfl rfl
/-! ### any thing, to be told -/
/-- a thing of so long a repr, so deep: b: without dicts; not b: without lists -/
structure Kd (b : Bool) (n m : Nat) (d : D) : Prop where
  len : d.shown.length ≤ n
  sh : d.showable = true
  dp : d.depth ≤ m
  pl : b = true → d.plain = true
  nl : b = false → noLs d = true
theorem Kd.mono {b : Bool} {d : D} {n m n' m' : Nat} (h : Kd b n m d) (x : n ≤ n') (y : m ≤ m') : Kd b n' m' d := ⟨Nat.le_trans h.len x, h.sh, Nat.le_trans h.dp y, h.pl, h.nl⟩
theorem Kd.ofFits {b : Bool} {n m : Nat} {d : D} (h : Fits d n m) (q : noLs d = true) : Kd b n m d := ⟨h.len, h.sh, h.dp, fun _ => h.pl, fun _ => q⟩
theorem kd_all {b : Bool} {n m : Nat} : ∀ {ds : List D}, (∀ d, d ∈ ds → Kd b n m d) → piled (PyData.shownAll ds) ≤ ds.length * (n + 2) ∧ PyData.showableAll ds = true ∧ PyData.depthAll ds ≤ m ∧ (b = true → PyData.plainAll ds = true) ∧ (b = false → noLsAll ds = true)
  | [], _ => ⟨Nat.zero_le _, rfl, Nat.zero_le _, fun _ => rfl, fun _ => rfl⟩
  | d :: ds, h => by
    obtain ⟨a, c, e, f, g⟩ := kd_all (ds := ds) fun x hx => h x (List.mem_cons_of_mem _ hx)
    have h0 := h d (List.mem_cons_self ..)
    refine ⟨?_, ?_, ?_, fun hb => ?_, fun hb => ?_⟩
    · show piled (d.shown :: PyData.shownAll ds) ≤ _
      rw [piled_cons, List.length_cons, Nat.add_mul]
      have := h0.len
      omega
    · simp only [PyData.showableAll, h0.sh, c, Bool.and_self]
    · show max d.depth (PyData.depthAll ds) ≤ m
      exact Nat.max_le.mpr ⟨h0.dp, e⟩
    · simp only [PyData.plainAll, h0.pl hb, f hb, Bool.and_self]
    · simp only [noLsAll, h0.nl hb, g hb, Bool.and_self]
theorem Kd.tuple {b : Bool} {n m : Nat} {ds : List D} (h : ∀ d, d ∈ ds → Kd b n m d) : Kd b (ds.length * (n + 2) + 2) (m + 1) (.tuple ds) := by
  obtain ⟨a, c, e, f, g⟩ := kd_all h
  refine ⟨?_, by simp only [PyData.showable]; exact c, Nat.succ_le_succ e, fun hb => by rw [PyData.plain]; exact f hb, fun hb => by rw [noLs]; exact g hb⟩
  simp only [PyData.shown]
  have := fmt_text (PyData.shownAll ds)
  omega
theorem Kd.list {n m : Nat} {ds : List D} (h : ∀ d, d ∈ ds → Kd true n m d) : Kd true (ds.length * (n + 2) + 2) (m + 1) (.list ds) := by
  obtain ⟨a, c, e, f, g⟩ := kd_all h
  refine ⟨?_, by simp only [PyData.showable]; exact c, Nat.succ_le_succ e, fun hb => by rw [PyData.plain]; exact f hb, fun hb => nomatch hb⟩
  simp only [PyData.shown]
  have := listText_le (PyData.shownAll ds)
  omega
theorem Kd.int {b : Bool} {k : Nat} {i : Int} (h : Bs k i) (hk : k ≤ 1918) : Kd b (k + 2) 0 (.int i) := .ofFits (.int h hk) rfl
theorem Kd.none {b : Bool} : Kd b 5 0 .none := .ofFits (Fits.none.mono (by decide) (by decide)) rfl
theorem Kd.bool {b c : Bool} : Kd b 5 0 (.bool c) := .ofFits Fits.bool rfl
theorem Kd.rep {b : Bool} {n m : Nat} {d : D} (h : Kd b n m d) (x : n ≤ 16000000) (y : m ≤ 60) : opRepr (.d d) = some (.d (.str d.shown)) := by
  cases b with
  | true =>
    refine opRepr_s ?_
    unfold Vm.okr
    rw [Bool.and_eq_true, Bool.and_eq_true, decide_eq_true_eq]
    exact ⟨⟨okd_iff.mpr ⟨h.pl rfl, Nat.le_trans h.dp y⟩, h.sh⟩, Nat.le_trans h.len x⟩
  | false =>
    refine opRepr_n ?_
    unfold Vm.okrN
    rw [Bool.and_eq_true, Bool.and_eq_true, Bool.and_eq_true, decide_eq_true_eq, decide_eq_true_eq]
    exact ⟨⟨⟨h.nl rfl, Nat.le_trans h.dp y⟩, h.sh⟩, Nat.le_trans h.len x⟩
/-! ### looks at any thing -/
end Vm
namespace Vm
open PySem L2
/-! ### what a statement leaves, wished for -/
structure Po where
  nx : S → Prop
  rt : Rv → S → Prop
  ex : String → S → Prop
  ct : S → Prop
  bk : S → Prop
def Po.of (P : Po) : Out → Prop
  | .nx s => P.nx s
  | .rt a s => P.rt a s
  | .ex e s => P.ex e s
  | .ct s => P.ct s
  | .bk s => P.bk s
  | .bad => False
@[irreducible] def Wp (c : CS) (P : Po) (s : S) : Prop := P.of (c s)
/-- equal; simp does not take it apart -/
def Is {α : Type} (x y : α) : Prop := x = y
theorem Is.rfl {α : Type} {x : α} : Is x x := Eq.refl x
theorem Is.eq {α : Type} {x y : α} (h : Is x y) : x = y := h
/-- a call's result -/
def Ok (r : RF) (Q : Rv → List Cell → Prop) : Prop := ∃ a m, r = .ok a m ∧ Q a m
def poF (m : List Cell) (Q : Rv → List Cell → Prop) : Po where
  nx := fun s => Q (.d .none) (s.m.take m.length)
  rt := fun a s => Ok (fin m (.rt a s)) Q
  ex := fun _ _ => False
  ct := fun _ => False
  bk := fun _ => False
section
variable {a b c : CS} {P : Po} {s s1 : S} {t : CT}
theorem w_of {o : Out} (h : c s = o) (q : P.of o) : Wp c P s := by
  unfold Wp at *
  rw [h]
  exact q
theorem st (h : Is (a s) (.nx s1)) (q : Wp b P s1) : Wp (cSeq a b) P s := by
  unfold Wp at *
  rw [cSeq_s, h.eq]
  exact q
theorem st_last (h : Is (a s) (.nx s1)) (q : P.nx s1) : Wp a P s := w_of h q
theorem w_ret {e : CE} {x : Rv} (h : Is (e s) (.ok x s1)) (q : P.rt x s1) : Wp (cRet e) P s := by
  unfold Wp at *
  rw [cRet_s, h.eq]
  exact q
theorem w_seq (h : Wp a { P with nx := fun s1 => Wp b P s1 } s) : Wp (cSeq a b) P s := by
  unfold Wp at *
  rw [cSeq_s]
  cases e : a s <;> rw [e] at h <;> exact h
theorem w_mono {P' : Po} (h : Wp a P s) (h1 : ∀ s, P.nx s → P'.nx s) (h2 : ∀ x s, P.rt x s → P'.rt x s) (h3 : ∀ x s, P.ex x s → P'.ex x s) (h4 : ∀ s, P.ct s → P'.ct s) (h5 : ∀ s, P.bk s → P'.bk s) : Wp a P' s := by
  unfold Wp at *
  cases e : a s <;> rw [e] at h
  · exact h1 _ h
  · exact h2 _ _ h
  · exact h5 _ h
  · exact h4 _ h
  · exact h3 _ _ h
  · exact h
/-- behind a, N holds -/
theorem w_cut (N : S → Prop) (h : Wp a { P with nx := N } s) (q : ∀ s1, N s1 → Wp b P s1) : Wp (cSeq a b) P s :=
  w_seq (w_mono h q (fun _ _ h => h) (fun _ _ h => h) (fun _ h => h) (fun _ h => h))
theorem w_if {x : Bool} (h : Is (t s) (.ok x s1)) (h1 : x = true → Wp a P s1) (h2 : x = false → Wp b P s1) : Wp (cIfS t a b) P s := by
  unfold Wp at *
  rw [cIfS_s, h.eq, out_ok, kIfS_s]
  cases x with
  | true => exact h1 rfl
  | false => exact h2 rfl
theorem w_ifT (h : Is (t s) (.ok true s1)) (h1 : Wp a P s1) : Wp (cIfS t a b) P s := w_if h (fun _ => h1) fun z => nomatch z
theorem w_ifF (h : Is (t s) (.ok false s1)) (h1 : Wp b P s1) : Wp (cIfS t a b) P s := w_if h (fun z => nomatch z) fun _ => h1
/-- if t: return .. ahead of b -/
theorem w_sif {x : Bool} {d : CS} (h : Is (t s) (.ok x s1)) (h1 : x = true → Wp (cSeq a d) P s1) (h2 : x = false → Wp (cSeq b d) P s1) : Wp (cSeq (cIfS t a b) d) P s := by
  unfold Wp at *
  rw [cSeq_s, cIfS_s, h.eq, out_ok, kIfS_s]
  cases x with
  | true =>
    have := h1 rfl
    rw [cSeq_s] at this
    exact this
  | false =>
    have := h2 rfl
    rw [cSeq_s] at this
    exact this
theorem w_nxS {d : CS} (h : Wp d P s) : Wp (cSeq cNx d) P s := by
  unfold Wp at *
  exact h
theorem w_nx (q : P.nx s) : Wp cNx P s := by
  unfold Wp at *
  exact q
/-- a for loop; I i holds ahead of the turn i -/
theorem w_for {ci : CI} {tg : Tg} {ds : List D} (I : Nat → S → Prop) (h : Is (ci s) (.ok ds s1)) (h0 : I 0 s1)
    (hb : ∀ i d s, ds[i]? = some d → I i s → ∃ s2, tg d s = some s2 ∧ Wp a { nx := I (i + 1), rt := P.rt, ex := P.ex, ct := I (i + 1), bk := P.nx } s2)
    (h1 : ∀ s, I ds.length s → P.nx s) : Wp (cFor ci tg a) P s := by
  unfold Wp at *
  rw [cFor_s, h.eq, out_ok]
  have go : ∀ (l : List D) (k : Nat) (s : S), (∀ i d, l[i]? = some d → ds[k + i]? = some d) → k + l.length = ds.length → I k s → P.of (forL tg a l s) := by
    intro l
    induction l with
    | nil =>
      intro k s _ hl hi
      rw [forL_nil]
      have : k = ds.length := by simpa using hl
      exact h1 s (this ▸ hi)
    | cons d l ih =>
      intro k s hd hl hi
      obtain ⟨s2, e1, w⟩ := hb k d s (hd 0 d rfl) hi
      rw [forL_cons e1]
      have next : ∀ s3, I (k + 1) s3 → P.of (forL tg a l s3) := fun s3 h3 => ih (k + 1) s3 (fun i d q => by rw [show k + 1 + i = k + (i + 1) by omega]; exact hd (i + 1) d q) (by rw [List.length_cons] at hl; omega) h3
      cases e : a s2 <;> rw [e] at w
      · exact next _ w
      · exact w
      · exact w
      · exact next _ w
      · exact w
      · exact w
  exact go ds 0 s1 (fun i d q => by rw [Nat.zero_add]; exact q) (by omega) h0
end
/-! calls -/
theorem run_ok {n : Nat} {c : CS} {as : List Sl} {m : List Cell} {Q : Rv → List Cell → Prop} (h : Wp c (poF m Q) ⟨as ++ List.replicate (n - as.length) .u, m⟩) : Ok (runF n c as m) Q := by
  unfold Wp at h
  rw [runF_s]
  generalize c _ = o at h
  cases o with
  | nx s => exact ⟨_, _, rfl, h⟩
  | rt a s => exact h
  | bk s => exact h.elim
  | ct s => exact h.elim
  | ex e s => exact h.elim
  | bad => exact h.elim
theorem run_eq {n : Nat} {c : CS} {as : List Sl} {m m' : List Cell} {a : Rv} (h : Wp c (poF m fun x m1 => x = a ∧ m1 = m') ⟨as ++ List.replicate (n - as.length) .u, m⟩) : runF n c as m = .ok a m' := by
  obtain ⟨_, _, e, rfl, rfl⟩ := run_ok h
  exact e
theorem ok_d {m : List Cell} {x : D} {s : S} {Q : Rv → List Cell → Prop} (h : Q (.d x) (s.m.take m.length)) : Ok (fin m (.rt (.d x) s)) Q := ⟨_, _, fin_d, h⟩
theorem ok_new {m : List Cell} {x : Cell} {s : S} {Q : Rv → List Cell → Prop} (h : Q (.new x) (s.m.take m.length)) : Ok (fin m (.rt (.new x) s)) Q := ⟨_, _, fin_new, h⟩
theorem ok_cell {m : List Cell} {k : Nat} {s : S} {c : Cell} {Q : Rv → List Cell → Prop} (h1 : m.length ≤ k) (h2 : s.m[k]? = some c) (h3 : c ≠ .gone) (h : Q (.new c) (s.m.take m.length)) : Ok (fin m (.rt (.ref k) s)) Q := ⟨_, _, fin_cell h1 h2 h3, h⟩
theorem Ok.eq {r : RF} {a : Rv} {m : List Cell} (h : Ok r fun x m1 => x = a ∧ m1 = m) : r = .ok a m := by
  obtain ⟨_, _, e, rfl, rfl⟩ := h
  exact e
theorem Ok.imp {r : RF} {Q Q' : Rv → List Cell → Prop} (h : Ok r Q) (q : ∀ a m, Q a m → Q' a m) : Ok r Q' := by
  obtain ⟨a, m, e, h⟩ := h
  exact ⟨a, m, e, q a m h⟩
/-! ### comprehensions over told lists -/
theorem lc_for {α : Type} {own : List Nat} {ci : CI} {tg : Tg} {el : CE} {s s1 : S} {xs : List α} {F : α → D} (G : α → D) (h : ci s = .ok (xs.map F) s1) (hl : xs.length ≤ 16000000)
    (hb : ∀ x, x ∈ xs → ∃ t, tg (F x) ⟨wipeV s1.v own, s1.m⟩ = some t ∧ ∃ v3, cv el t = .ok (.d (G x)) ⟨v3, s1.m⟩) : cLc own ci tg ctYes el s = .ok (.new (.l (xs.map G))) s1 := by
  have go : ∀ (l : List α) (acc : List D), (∀ x, x ∈ l → x ∈ xs) → lcL own s1.v tg ctYes el (l.map F) acc s1.m = .ok (.new (.l (acc ++ l.map G))) s1 := by
    intro l
    induction l with
    | nil =>
      intro acc _
      show R.ok (Rv.new (.l acc)) _ = _
      rw [List.map_nil, List.append_nil]
    | cons x l ih =>
      intro acc hx
      obtain ⟨t, h1, v3, h2⟩ := hb x (hx x (List.mem_cons_self ..))
      rw [List.map_cons]
      unfold lcL
      rw [h1]
      dsimp only
      show ((cv el t).nx.bind _) = _
      rw [h2]
      show lcL own s1.v tg ctYes el (l.map F) (acc ++ [G x]) s1.m = _
      rw [ih (acc ++ [G x]) fun y hy => hx y (List.mem_cons_of_mem _ hy), List.append_assoc]
      rfl
  unfold cLc
  rw [h, bind_ok, if_pos (by rw [List.length_map]; exact hl), go xs [] fun x hx => hx]
  rfl
theorem lc_some {α : Type} {own : List Nat} {ci : CI} {tg : Tg} {tt : CT} {el : CE} {s s1 : S} {xs : List α} {F : α → D} (p : α → Bool) (G : α → D) (h : ci s = .ok (xs.map F) s1) (hl : xs.length ≤ 16000000)
    (hb : ∀ x, x ∈ xs → ∃ t, tg (F x) ⟨wipeV s1.v own, s1.m⟩ = some t ∧ ∃ v2, tt t = .ok (p x) ⟨v2, s1.m⟩ ∧ (p x = true → ∃ v3, cv el ⟨v2, s1.m⟩ = .ok (.d (G x)) ⟨v3, s1.m⟩)) : cLc own ci tg tt el s = .ok (.new (.l ((xs.filter p).map G))) s1 := by
  have go : ∀ (l : List α) (acc : List D), (∀ x, x ∈ l → x ∈ xs) → lcL own s1.v tg tt el (l.map F) acc s1.m = .ok (.new (.l (acc ++ (l.filter p).map G))) s1 := by
    intro l
    induction l with
    | nil =>
      intro acc _
      show R.ok (Rv.new (.l acc)) _ = _
      rw [List.filter_nil, List.map_nil, List.append_nil]
    | cons x l ih =>
      intro acc hx
      obtain ⟨t, h1, v2, h2, h3⟩ := hb x (hx x (List.mem_cons_self ..))
      rw [List.map_cons]
      unfold lcL
      rw [h1]
      dsimp only
      rw [h2]
      show (if p x = true then _ else _) = _
      cases hp : p x with
      | false =>
        rw [if_neg (by decide), ih acc fun y hy => hx y (List.mem_cons_of_mem _ hy), List.filter_cons_of_neg (by rw [hp]; decide)]
      | true =>
        obtain ⟨v3, h4⟩ := h3 hp
        rw [if_pos rfl, h4]
        show lcL own s1.v tg tt el (l.map F) (acc ++ [G x]) s1.m = _
        rw [ih (acc ++ [G x]) fun y hy => hx y (List.mem_cons_of_mem _ hy), List.filter_cons_of_pos hp, List.append_assoc]
        rfl
  unfold cLc
  rw [h, bind_ok, if_pos (by rw [List.length_map]; exact hl), go xs [] fun x hx => hx]
  rfl
/-- a comprehension whose turns draw: from the told state on, J of what was drawn -/
theorem lc_draws {own : List Nat} {ci : CI} {tg : Tg} {el : CE} {s s1 : S} {ds : List D} (I : Nat → List Cell → Prop) (J : D → Prop) (h : ci s = .ok ds s1) (hl : ds.length ≤ 16000000) (h0 : I 0 s1.m)
    (hb : ∀ i m d, ds[i]? = some d → I i m → ∃ t, tg d ⟨wipeV s1.v own, m⟩ = some t ∧ ∃ x v3 m3, cv el t = .ok (.d x) ⟨v3, m3⟩ ∧ J x ∧ I (i + 1) m3) :
    ∃ acc m', cLc own ci tg ctYes el s = .ok (.new (.l acc)) ⟨s1.v, m'⟩ ∧ acc.length = ds.length ∧ (∀ x, x ∈ acc → J x) ∧ I ds.length m' := by
  obtain ⟨acc, m', e, ⟨h1, h2⟩, h3⟩ := lc_inv (tt := ctYes) (fun i acc m => (acc.length = i ∧ ∀ x, x ∈ acc → J x) ∧ I i m) h hl ⟨⟨rfl, fun x hx => nomatch hx⟩, h0⟩ fun i acc m d hd hi => by
    obtain ⟨⟨h1, h2⟩, h3⟩ := hi
    obtain ⟨t, e1, x, v3, m3, e2, hx, h4⟩ := hb i m d hd h3
    refine ⟨t, e1, true, t, rfl, (fun z => nomatch z), fun _ => ⟨x, _, e2, ⟨by rw [List.length_append, h1]; rfl, fun y hy => ?_⟩, h4⟩⟩
    rcases List.mem_append.mp hy with hy | hy
    · exact h2 y hy
    · rw [List.mem_singleton.mp hy]
      exact hx
  exact ⟨acc, m', e, h1, h2, h3⟩
theorem ints_of {ds : List D} (P : Int → Prop) (h : ∀ x, x ∈ ds → ∃ i, x = .int i ∧ P i) : ∃ ns : List Int, ds = ns.map PyData.int ∧ ∀ i, i ∈ ns → P i := by
  induction ds with
  | nil => exact ⟨[], rfl, fun i h => nomatch h⟩
  | cons d ds ih =>
    obtain ⟨i, rfl, hi⟩ := h d (List.mem_cons_self ..)
    obtain ⟨ns, rfl, hn⟩ := ih fun x hx => h x (List.mem_cons_of_mem _ hx)
    refine ⟨i :: ns, rfl, fun j hj => ?_⟩
    rcases List.mem_cons.mp hj with rfl | hj
    · exact hi
    · exact hn j hj
/-! ### operations with bounds that omega sees -/
theorem opMul_b {i j : Int} (h1 : -1000000000000000000000000000000000000000 ≤ i) (h2 : i ≤ 1000000000000000000000000000000000000000) (h3 : -1000000000000000000000000000000000000000 ≤ j) (h4 : j ≤ 1000000000000000000000000000000000000000) : opMulV (.d (.int i)) (.d (.int j)) = some (.d (.int (i * j))) :=
  opMul_i (mulOk_small (by omega) (by omega))
theorem getD_map {α β : Type} {xs : List α} {F : α → β} {i : Nat} {a : α} {b : β} (h : i < xs.length) : (xs.map F).getD i b = F (xs.getD i a) := by
  rw [List.getD_eq_getElem?_getD, List.getD_eq_getElem?_getD, List.getElem?_map, List.getElem?_eq_getElem h]
  rfl
theorem opIx_tb {ds : List D} {i : Int} (h : 0 ≤ i) (h2 : i < ds.length) : opIx (.d (.tuple ds)) (.d (.int i)) = some (.d (ds.getD i.toNat .none)) := by
  refine opIx_t (atI_nat h ?_)
  rw [List.getD_eq_getElem?_getD, List.getElem?_eq_getElem (by omega)]
  rfl
theorem opIx_ti {ns : List Int} {i : Int} (h : 0 ≤ i) (h2 : i < ns.length) : opIx (.d (.tuple (ns.map PyData.int))) (.d (.int i)) = some (.d (.int (ns.getD i.toNat 0))) := by
  rw [opIx_tb h (by rw [List.length_map]; exact h2), getD_map (a := 0) (by omega)]
/-! draws -/
theorem dB {B : Nat} {p : Cell} (r : List Cell) (many : Int) (hp : IsPen B p) (hB : B < 1000000 := by omega) (hm : 0 < many := by omega) (h2 : many < 18446744073709551616 := by omega) : ∃ v p', fDrawB [.c 0, .d (.int many)] (p :: r) = .ok (.d (.int v)) (p' :: r) ∧ 0 ≤ v ∧ v < many ∧ IsPen (B + 1) p' := by
  obtain ⟨v, p', h⟩ := drawB B p r many hp hB hm (log2_many hm (by omega))
  exact ⟨v, p', h⟩
end Vm
namespace Vm
open PySem L2 PySem.Spec PyProof.Rows
/-! ### str(x) -/
def strD : D → Option Str
  | .int i => if okr (.int i) = true then some (PyData.int i).shown else none
  | .str z => some z
  | .list ds => if okr (.list ds) = true then some (PyData.list ds).shown else none
  | .tuple ds => if okr (.tuple ds) = true then some (PyData.tuple ds).shown else none
  | _ => none
def opStr : Od → Option Rv
  | .d d => (strD d).map fun z => .d (.str z)
  | _ => none
/-! ### bool(x) -/
def opBool : Od → Option Rv
  | .d (.int i) => some (.d (.bool (i != 0)))
  | .d (.bool b) => some (.d (.bool b))
  | _ => none
/-! ### shifts, masks -/
/-! ### dict(pairs) -/
/-! ### enumerate -/
theorem meets_enum_tup (tp : Addr) (items : Array Value) (n : Nat) (dct : Option Addr) (sl : Array (Option Value)) :
    Meets (Builtin.«enumerate.__new__» ⟨[.type "enumerate", .ref tp], []⟩) (fun _ R s => s.heap.get? tp = some { cls := .type "tuple", dict := dct, data := .seq items n, slots := sl } ∧
      R (.ok (.ret (.ref (s.heap.push { cls := .type "tuple_iterator", data := .fields #[.ref tp, .int 0 0] }).objs.size)))
        { s with heap := (s.heap.push { cls := .type "tuple_iterator", data := .fields #[.ref tp, .int 0 0] }).push { cls := .type "enumerate", data := .fields #[.none, .bool false, .ref s.heap.objs.size, rawInt 0, .none, .none] } }) :=
  .of_wp fun prog w A R s h => by
    obtain ⟨hp, gg, dd, tok, oo⟩ := s
    obtain ⟨ht, h⟩ := h
    have sb := sub_enumerate
    have tT : Heap.IsTuple (Shared.heap ⟨hp, gg, dd, tok, oo⟩) tp items := ⟨_, ht, rfl, n, rfl⟩
    wp_walk using AutoSeq1.wpAny_loadPart' ht
    refine wpAny_stack_any fun st => wpAny_pure ?_
    split
    · rename_i cc _ _ _ _ _
      cases (cc == Value.type "enumerate")
      · wp_walk using AutoSeq1.wpAny_loadPart' ht, wpAny_pyIter_tuple tT
        exact ⟨_, rfl, h⟩
      · wp_walk using AutoSeq1.wpAny_loadPart' ht, wpAny_pyIter_tuple tT
        exact ⟨_, rfl, h⟩
    · wp_walk using AutoSeq1.wpAny_loadPart' ht, wpAny_pyIter_tuple tT
      exact ⟨_, rfl, h⟩
section
variable {prog : Program} {w : World} {A : Around} {E : Value → Shared → Prop} {s : Shared}
theorem call_enum_tup {tp : Addr} {items : Array Value} {Q : Value → Shared → Prop} (hT : s.heap.IsTuple tp items)
    (h : ∀ h', IsEnum h' (s.heap.objs.size + 1) s.heap.objs.size 0 .none → h'.IsTupleIter s.heap.objs.size tp 0 → h'.objs.size = s.heap.objs.size + 2 →
      (∀ b o, s.heap.get? b = some o → h'.get? b = some o) → Q (.ref (s.heap.objs.size + 1)) { s with heap := h' }) :
    wpAny (model prog w) A (call (.type "enumerate") [.ref tp]) Q E s := by
  obtain ⟨⟨cc, dc, da, sl⟩, ht, hc, n, hd⟩ := hT
  replace hc : cc = .type "tuple" := hc
  replace hd : da = .seq items n := hd
  subst hc hd
  refine callType_new F.called_enumerate (by decide) (F.typeCall_enumerate_1 _) (F.newCall_enumerate_1 _) (fun o => F.args_object_init_2 o _) F.entry_enumerate_new (meets_enum_tup tp items n dc sl) ⟨ht, ?_⟩
  have z1 : (s.heap.push { cls := .type "tuple_iterator", data := .fields #[.ref tp, .int 0 0] }).objs.size = s.heap.objs.size + 1 := Heap.size_push ..
  show _ ∧ _
  rw [z1]
  have ie : IsEnum ((s.heap.push { cls := .type "tuple_iterator", data := .fields #[.ref tp, .int 0 0] }).push
      { cls := .type "enumerate", data := .fields #[.none, .bool false, .ref s.heap.objs.size, rawInt 0, .none, .none] }) (s.heap.objs.size + 1) s.heap.objs.size 0 .none := by
    have q := Heap.get?_push_size (s.heap.push { cls := .type "tuple_iterator", data := .fields #[.ref tp, .int 0 0] })
      (o := { cls := .type "enumerate", data := .fields #[.none, .bool false, .ref s.heap.objs.size, rawInt 0, .none, .none] }) rfl
    rw [z1] at q
    exact q
  exact ⟨⟨_, ie, rfl⟩, h _ ie ⟨_, Heap.get?_push_of_some _ (Heap.get?_push_size _ rfl), rfl, rfl⟩ (by rw [Heap.size_push, z1]) fun b o x => Heap.get?_push_of_some _ (Heap.get?_push_of_some _ x)⟩
end
section
variable {prog : Program} {w : World} {A : Around} {E : Value → Shared → Prop} {s : Shared}
theorem wpAny_pyNext_enum_endT {e it tp : Addr} {items : Array Value} {i : Nat} {c : Int} {old : Value} {Q : Option Value → Shared → Prop} (hh : A.handled = none) (ie : IsEnum s.heap e it c old) (hit : s.heap.IsTupleIter it tp i)
    (ht : s.heap.IsTuple tp items) (hx : items[i]? = none) (hQ : ∀ h', Heap.ExtBut it s.heap h' → Q none { s with heap := h' }) : wpAny (model prog w) A (pyNext (.ref e)) Q E s := by
  have ty : s.TypeIs (.ref e) "enumerate" := ⟨_, ie, rfl⟩
  unfold pyNext
  refine wpAny_bind (wpAny_attempt (wpAny_callSpecial?_slot (name := Str.ofString "__next__") ty F.slot_enumerate_next (wpAny_call_entry F.slot_enumerate_next ty F.entry_enumerate_next ?_ (F.args_enumerate_next_1 _))))
  show wpAny _ _ (field (.ref e) 2 >>= _) _ _ _
  refine wpAny_bind (wpAny_field ie rfl (x := .ref it) rfl (wpAny_bind (wpAny_nextOf_tuple_end hh hit ht hx fun h' x eb st => ?_)))
  obtain ⟨o, ho, hc⟩ := st
  exact wpAny_bind (wpAny_isInstance (T := "StopIteration") (b := true) ⟨o, ho, hc⟩ isSubtype_stop (wpAny_pure (hQ _ eb)))
end
/-- the tuple at a as it stands, each item in a new pair -/
def IteT (K : Fg) (a : Addr) : It :=
  ⟨fun i H => ∃ (xs : List V) (x : V), SqT K H a xs ∧ xs[i]? = some x, fun i H v H' => ∃ T x, v = .ref T ∧ H T = none ∧ H' = upd H T (.tup [.int (i : Nat), x]) ∧ ∀ xs, SqT K H a xs → xs[i]? = some x, fun i H => ∃ xs : List V, SqT K H a xs ∧ xs.length ≤ i⟩
theorem turn_enumT {P : Program} {w : World} {K : Fg} {elts : List Expr} {kk : Nat} {tpos : Pos} (a e it : Addr) :
    Turn P w K (.Tuple elts kk tpos) (IteT K a) [e, it] e (fun i h => (∃ old, IsEnum h e it ((i : Nat) : Int) old) ∧ h.IsTupleIter it a i ∧ e ≠ it ∧ e ≠ a ∧ a ≠ it) where
  mem := by simp
  obj := fun i h st b hb => by
    obtain ⟨⟨old, he⟩, ⟨o, ho, hc, hd⟩, _⟩ := st
    have e1 : b = e ∨ b = it := by simpa using hb
    rcases e1 with z | z
    · rw [z]
      exact ⟨_, he, fun v q => nomatch q⟩
    · rw [z]
      exact ⟨o, ho, fun v q => by rw [hd] at q; cases q⟩
  keep := fun i h h' st k => by
    obtain ⟨⟨old, he⟩, hi, hne⟩ := st
    exact ⟨⟨old, k e (by simp) _ he⟩, hi.at fun o q => k it (by simp) o q, hne⟩
  item := by
    intro X hP hw hK hc i pins s σ H E I hf st hg
    subst hP hw hK
    obtain ⟨⟨old, he⟩, hit, hne, hea, hai⟩ := st
    obtain ⟨xs, x, hq, hx⟩ := hg
    obtain ⟨its, rv, p, hz⟩ := I.tuple hq
    obtain ⟨u, hu, ru⟩ := rv.get hx
    have hel : e < s.heap.objs.size := Heap.lt_size he
    have hil : it < s.heap.objs.size := by
      obtain ⟨_, q, _⟩ := hit
      exact Heap.lt_size q
    have hsz : i < its.toArray.size := by
      rw [List.size_toArray]
      exact (List.getElem?_eq_some_iff.mp hu).1
    refine wpAny_pyNext_enum_itemD (Draws.tuple (by exact I.ok.hd hc) it a hai its.toArray) he ⟨hit, p⟩ hsz hne (by simp [hea, hne]) fun y h' tk hy ho hst hT hz' hk => ?_
    have ey : y = u := by
      have hy : its.toArray[i]? = some y := hy
      rw [List.getElem?_toArray, hu] at hy
      exact (Option.some.inj hy).symm
    subst ey
    refine ⟨_, rfl, wpAny_letOwnedTupleGo_enum (s := { s with heap := h', toks := tk + 1 }) ho fun h'' he' sb => ?_⟩
    have hT2 : h''.get? s.heap.objs.size = some { cls := .type "tuple", data := .seq #[.int i tk, y] } := (sb.2 _ (Nat.ne_of_gt hel)).trans hT
    have new : ObjOk X.prog X.w (upd H s.heap.objs.size (.tup [.int (i : Nat), x])) h'' s.heap.objs.size (.tup [.int (i : Nat), x]) :=
      ⟨by show 2 ≤ sizeLine; decide, [.int i tk, y], .cons ⟨_, rfl⟩ (.cons ru .nil), ⟨_, hT2, rfl, _, rfl⟩⟩
    have I1 : Inv X pins σ (upd H s.heap.objs.size (.tup [.int (i : Nat), x])) { s with heap := h'', toks := tk + 1 } :=
      I.turnedNew (ch := [e, it]) (fun b ob hb q => (sb.2 b (fun z => hb (by simp [z]))).trans (hk b ob (fun z => hb (by simp [z])) (fun z => hb (by simp [z])) q)) hf (Nat.le_refl _) new
    refine ⟨.ref s.heap.objs.size, _, I1, rfl, ⟨_, x, rfl, I.hok.fresh (Nat.le_refl _), rfl, fun ys hy => by rw [I.tuple_inj hy hq]; exact hx⟩, ⟨⟨y, ?_⟩, hst.1.at fun o q => (sb.2 it (Ne.symm hne)).trans q, hne, hea, hai⟩, fun b hb => ?_⟩
    · have e1 : ((i + 1 : Nat) : Int) = (i : Int) + 1 := by omega
      rw [e1]
      exact he'
    · have hb' : b < s.heap.objs.size := by
        have e1 : b = e ∨ b = it := by simpa using hb
        rcases e1 with z | z
        · rw [z]
          exact hel
        · rw [z]
          exact hil
      rw [upd_ne (Nat.ne_of_lt hb')]
      exact (hf b hb).1
  done := by
    intro X hP hw hK hc i pins s σ H E I hf st hg
    subst hP hw hK
    obtain ⟨⟨old, he⟩, hit, hne, hea, hai⟩ := st
    obtain ⟨xs, hq, hx⟩ := hg
    obtain ⟨its, rv, p, hz⟩ := I.tuple hq
    obtain ⟨f0, f1, f2, f3, f4, f5⟩ := hf it (by simp)
    have hl := rv.length
    exact wpAny_pyNext_enum_endT (I.ok.hd hc) he hit p (by simp; omega) fun h' eb => ⟨rfl, I.turned (t' := s.toks) (fun b o hb q => eb b o hb q) f0 f1 f3 f4 f5⟩
  self := fun A i s Q E st h => let ⟨⟨_, he⟩, _⟩ := st; wpAny_pyIter_enum he h
end Vm
namespace Vm
open PySem L2 PySem.Spec PyProof.Rows
def iEnumA (K : Fg) (ta : TA) : TI := fun σ H R => ta σ H fun vs H1 => ∃ a xs, vs = [.ref a] ∧ ((SqL K H1 a xs ∧ R (Ite K a) H1) ∨ (SqT K H1 a xs ∧ R (IteT K a) H1))
theorem pi_enumA {X : Cx} {e : Expr} {ta : TA} {p pos tpos : Pos} {elts : List Expr} {kk : Nat} (hg : Gl X "enumerate") (hm : X.mg "enumerate" = none) (ha : PA X [e] ta) (hs : starEach [e] X.env = [(false, eval e X.env)] := by rfl) :
    PI X (.Tuple elts kk tpos) (.Call (.Name "enumerate" p) [e] [] pos) (iEnumA X.K ta) := by
  refine ⟨fun pins s σ H R I h => ?_⟩
  refine Call_ (ld_blt I hg hm boot_enumerate (PyProof.Rows.callWith_type1 (thn (ha.run pos pins s σ H _ I h) fun us s1 ⟨vs, H1, I1, r1, q1⟩ => ?_) hs rfl))
  obtain ⟨a, xs, ex, q1⟩ := q1
  subst ex
  cases r1 with
  | cons r rr =>
    cases rr
    cases r
    have fresh : ∀ b, b ∈ [s1.heap.objs.size + 1, s1.heap.objs.size] → FpOk X pins H1 b := fun b hb => by
      have e1 : b = s1.heap.objs.size + 1 ∨ b = s1.heap.objs.size := by simpa using hb
      have hle : s1.heap.objs.size ≤ b := by
        rcases e1 with z | z
        · rw [z]
          exact Nat.le_add_right _ _
        · rw [z]
          exact Nat.le_refl _
      exact I1.fpOk hle (I1.hok.fresh hle)
    rcases q1 with ⟨hq, q⟩ | ⟨hq, q⟩
    · obtain ⟨its, rv, pl, hz⟩ := I1.list hq
      refine call_enumerate_list pl.isList fun h' he hit hsz hk => wpAny_pyIter_enum he ?_
      have I2 : Inv X pins σ H1 { s1 with heap := h' } := I1.kept (t' := s1.toks) hk
      exact ⟨s1.heap.objs.size + 1, [s1.heap.objs.size + 1, s1.heap.objs.size], _, _, H1, rfl, I2, turn_enum a (s1.heap.objs.size + 1) s1.heap.objs.size, ⟨⟨.none, he⟩, hit, Nat.succ_ne_self _⟩, fresh, q⟩
    · obtain ⟨its, rv, pt, hz⟩ := I1.tuple hq
      have hlt : a < s1.heap.objs.size := by
        obtain ⟨o, ho, _⟩ := id pt
        exact Heap.lt_size ho
      refine call_enum_tup (show s1.heap.IsTuple a its.toArray from pt) fun h' he hit hsz hk => wpAny_pyIter_enum he ?_
      have I2 : Inv X pins σ H1 { s1 with heap := h' } := I1.kept (t' := s1.toks) hk
      exact ⟨s1.heap.objs.size + 1, [s1.heap.objs.size + 1, s1.heap.objs.size], _, _, H1, rfl, I2, turn_enumT a (s1.heap.objs.size + 1) s1.heap.objs.size, ⟨⟨.none, he⟩, hit, Nat.succ_ne_self _, Nat.ne_of_gt (Nat.lt_succ_of_lt hlt), Nat.ne_of_lt hlt⟩, fresh, q⟩
/-- a new pair joins the ground -/
theorem gr_pair {K : Fg} {w : Wd} {T : Addr} {x y : V} {d e : D} (hx : Same w.G w.H) (hT : w.H T = none) (h1 : Rp K w.G x d) (h2 : Rp K w.G y e) : ∃ w2, Gr w w2 ∧ w2.H = upd w.H T (.tup [x, y]) ∧ Rp K w2.G (.ref T) (.tuple [d, e]) := by
  have hg : w.G T = none := hx.free hT
  refine ⟨⟨upd w.G T (.tup [x, y]), w.r, w.F, upd w.H T (.tup [x, y])⟩, ⟨rfl, rfl, same_upd hg, same_upd hT, fun e => same_upd2 e, fun q o e _ n => ?_, fun h => noTG_upd h noTb_tup⟩, rfl, .tup upd_same (.cons (h1.mono (same_upd hg)) (.cons (h2.mono (same_upd hg)) .nil))⟩
  show upd w.G T (.tup [x, y]) q = none
  rw [upd_ne (ne_of_none e hT)]
  exact n
def enumD (k : Nat) : List D → List D
  | [] => []
  | d :: ds => .tuple [.int (k : Nat), d] :: enumD (k + 1) ds
theorem enumD_len : ∀ (ds : List D) (k : Nat), (enumD k ds).length = ds.length
  | [], _ => rfl
  | d :: ds, k => congrArg (· + 1) (enumD_len ds (k + 1))
theorem enumD_get : ∀ (ds : List D) (k i : Nat), (enumD k ds)[i]? = (ds[i]?).map fun d => .tuple [.int ((k + i : Nat) : Int), d]
  | [], k, i => by simp [enumD]
  | d :: ds, k, 0 => rfl
  | d :: ds, k, i + 1 => by
    show (enumD (k + 1) ds)[i]? = (ds[i]?).map _
    rw [enumD_get ds (k + 1) i, show k + 1 + i = k + (i + 1) by omega]
def zipD : List D → List D → List D
  | d :: ds, e :: es => .tuple [d, e] :: zipD ds es
  | _, _ => []
def ciEnum (c : CE) : CI := fun s => (cv c s).bind fun a s1 => match a with
  | .d (.list ds) => .ok (enumD 0 ds) s1
  | .d (.tuple ds) => .ok (enumD 0 ds) s1
  | _ => .bad
def ciZip (c c' : CE) : CI := fun s => (cv c s).bind fun a s1 => (cv c' s1).bind fun b s2 => match a, b with
  | .d (.list ds), .d (.list es) => .ok (zipD ds es) s2
  | .d (.tuple ds), .d (.tuple es) => .ok (zipD ds es) s2
  | _, _ => .bad
section
variable {X : Cx} {ec : EC} {W : WX}
theorem i_enum {e : Expr} {c : CE} {p pos tpos : Pos} {elts : List Expr} {kk : Nat} (h : Ex X ec W e c) (hm : X.mg "enumerate" = none) (hg : Gl X "enumerate" := by rfl) (hs : starEach [e] X.env = [(false, eval e X.env)] := by rfl) (h0 : starEach [e] X.env = (false, eval e X.env) :: starEach [] X.env := by rfl) :
    Ix X ec W (.Tuple elts kk tpos) (.Call (.Name "enumerate" p) [e] [] pos) (ciEnum c) :=
  PI.imp (pi_enumA hg hm (pa_cons h pa_nil h0) hs) fun σ H R h => by
    obtain ⟨w, s, rfl, hr, h⟩ := h
    refine run_cv hr h fun x w1 s1 a le1 hr1 ha hn h1 => ?_
    cases a with
    | ref n => exact h1.elim
    | t _ _ => exact h1.elim
    | new c => exact h1.elim
    | d y =>
      have ha : Rp X.K w1.G x y := ha
      cases y with
      | list ds =>
        cases ha with
        | lst hs ra =>
          refine ⟨_, _, rfl, .inl ⟨hr1.mem.ext.seq hs, h1 _ w1 le1 hr1 fun w2 le2 e2 i => ⟨fun d hd => ?_, fun hl => ⟨_, e2.seq (le2.g.seq hs), by rw [ra.length]; rw [enumD_len] at hl; exact hl⟩⟩⟩⟩
          rw [enumD_get] at hd
          obtain ⟨d0, hd0, rfl⟩ := Option.map_eq_some_iff.mp hd
          obtain ⟨v, ev, rp⟩ := ra.get hd0
          refine ⟨⟨_, v, e2.seq (le2.g.seq hs), ev⟩, fun x H' hy => ?_⟩
          obtain ⟨T, y, rfl, hT, rfl, hy⟩ := hy
          have := hy _ (e2.seq (le2.g.seq hs))
          rw [ev] at this
          cases this
          rw [Nat.zero_add]
          exact gr_pair e2 hT (.int _) (rp.mono le2.g)
      | tuple ds =>
        cases ha with
        | tup hs ra =>
          refine ⟨_, _, rfl, .inr ⟨SqT.of (hr1.mem.ext _ _ hs), h1 _ w1 le1 hr1 fun w2 le2 e2 i => ⟨fun d hd => ?_, fun hl => ⟨_, SqT.of (e2 _ _ (le2.g _ _ hs)), by rw [ra.length]; rw [enumD_len] at hl; exact hl⟩⟩⟩⟩
          rw [enumD_get] at hd
          obtain ⟨d0, hd0, rfl⟩ := Option.map_eq_some_iff.mp hd
          obtain ⟨v, ev, rp⟩ := ra.get hd0
          refine ⟨⟨_, v, SqT.of (e2 _ _ (le2.g _ _ hs)), ev⟩, fun x H' hy => ?_⟩
          obtain ⟨T, y, rfl, hT, rfl, hy⟩ := hy
          have := hy _ (SqT.of (e2 _ _ (le2.g _ _ hs)))
          rw [ev] at this
          cases this
          rw [Nat.zero_add]
          exact gr_pair e2 hT (.int _) (rp.mono le2.g)
      | none => exact h1.elim
      | bool _ => exact h1.elim
      | int _ => exact h1.elim
      | str _ => exact h1.elim
      | dict _ => exact h1.elim
end
def enumR : Rv → S → R (List D)
  | .d (.list ds), s1 => .ok (enumD 0 ds) s1
  | .d (.tuple ds), s1 => .ok (enumD 0 ds) s1
  | _, _ => .bad
@[simp] theorem enumR_l {ds : List D} {s : S} : enumR (.d (.list ds)) s = .ok (enumD 0 ds) s := Eq.trans rfl rfl
@[simp] theorem enumR_t {ds : List D} {s : S} : enumR (.d (.tuple ds)) s = .ok (enumD 0 ds) s := Eq.trans rfl rfl
@[simp] theorem ciEnum_s {c : CE} {s : S} : ciEnum c s = (cv c s).bind enumR := by
  unfold ciEnum
  congr 1
  funext a s1
  rcases a with (_ | _ | _ | _ | _ | _ | _) | _ | _ <;> rfl
def zipR (a b : Rv) (s2 : S) : R (List D) := match a, b with
  | .d (.list ds), .d (.list es) => .ok (zipD ds es) s2
  | .d (.tuple ds), .d (.tuple es) => .ok (zipD ds es) s2
  | _, _ => .bad
@[simp] theorem zipR_l {ds es : List D} {s : S} : zipR (.d (.list ds)) (.d (.list es)) s = .ok (zipD ds es) s := Eq.trans rfl rfl
@[simp] theorem zipR_t {ds es : List D} {s : S} : zipR (.d (.tuple ds)) (.d (.tuple es)) s = .ok (zipD ds es) s := Eq.trans rfl rfl
def kZip (c' : CE) (a : Rv) (s1 : S) : R (List D) := (cv c' s1).bind (zipR a)
@[simp] theorem kZip_s {c' : CE} {a : Rv} {s : S} : kZip c' a s = (cv c' s).bind (zipR a) := Eq.trans rfl rfl
@[simp] theorem ciZip_s {c c' : CE} {s : S} : ciZip c c' s = (cv c s).bind (kZip c') := Eq.trans rfl rfl
@[simp] theorem opBool_i {i : Int} : opBool (.d (.int i)) = some (.d (.bool (i != 0))) := Eq.trans rfl rfl
@[simp] theorem opBool_b {b : Bool} : opBool (.d (.bool b)) = some (.d (.bool b)) := Eq.trans rfl rfl
@[simp] theorem opInt_b1 {b : Bool} : opInt (.d (.bool b)) = some (.d (.int (if b then 1 else 0))) := rfl
end Vm
namespace Vm
open PySem L2 PySem.Spec PyProof.Rows
@[simp] theorem wipeV_nil {v : List Sl} : wipeV v [] = v := rfl
@[simp] theorem wipeV_cons {v : List Sl} {i : Nat} {is : List Nat} : wipeV v (i :: is) = (wipeV v is).set i .u := rfl
theorem rangeI_map : ∀ (n k : Nat), rangeI k n = (List.range n).map fun (i : Nat) => ((k + i : Nat) : Int)
  | 0, k => rfl
  | n + 1, k => by
    show ((k : Int) :: rangeI (k + 1) n) = _
    have e : ((k : Int) + 1) = ((k + 1 : Nat) : Int) := by omega
    rw [e, rangeI_map n (k + 1), List.range_succ_eq_map, List.map_cons, List.map_map]
    congr 1
    apply List.map_congr_left
    intro i _
    show ((k + 1 + i : Nat) : Int) = ((k + (i + 1) : Nat) : Int)
    rw [show k + 1 + i = k + (i + 1) by omega]
/-- range(e): the numbers below -/
theorem ciR1_n {c : CE} {s s1 : S} {n : Nat} (h : c s = .ok (.d (.int (n : Nat))) s1) (hn : n < 1000000000) : ciR1 c s = .ok ((List.range n).map fun i : Nat => PyData.int (i : Int)) s1 := by
  rw [ciR1_s h (by omega) (by omega), Int.toNat_natCast, rangeD_eq]
  have := rangeI_map n 0
  rw [show ((0 : Nat) : Int) = 0 from rfl] at this
  rw [this, List.map_map]
  congr 1
  apply List.map_congr_left
  intro i _
  show PyData.int ((0 + i : Nat) : Int) = _
  rw [Nat.zero_add]
theorem opIx_ln {ds : List D} {i : Nat} (h : i < ds.length) : opIx (.d (.list ds)) (.d (.int (i : Nat))) = some (.d ds[i]) := opIx_l (atI_nat (by omega) (by rw [Int.toNat_natCast]; exact List.getElem?_eq_getElem h))
/-! ### what is a load -/
def nonB : D → Bool
  | .int n => decide (0 ≤ n)
  | _ => false
def geD : D → D → Bool
  | .int a, .int b => decide (b ≤ a)
  | _, _ => false
def fallD : List D → Bool
  | a :: b :: r => geD a b && fallD (b :: r)
  | _ => true
def loadB : D → Bool
  | .tuple ds => decide (1 ≤ ds.length ∧ ds.length ≤ 6) && ds.all nonB && fallD ds
  | _ => false
end Vm
namespace Vm
open PySem L2 PySem.Spec PyProof.Rows
theorem opMul_rep {x : D} {n : Int} (h0 : 0 ≤ n) (h : n ≤ 16000000) : opMulV (.d (.list [x])) (.d (.int n)) = some (.new (.l (List.replicate n.toNat x))) := by
  show (if _ then some (Rv.new (.l (List.replicate n.toNat [x]).flatten)) else none) = _
  rw [if_pos]
  · congr 3
    generalize n.toNat = k
    induction k with
    | zero => rfl
    | succ k ih => rw [List.replicate_succ, List.flatten_cons, ih]; rfl
  · simp only [Bool.and_eq_true, decide_eq_true_eq]
    refine ⟨⟨by omega, by omega⟩, ?_⟩
    show 1 * n.toNat ≤ 16000000
    omega
@[simp] theorem opSortedR_s {ns : List Int} : opSortedR (.d (.list (ns.map PyData.int))) = some (.new (.l ((sortD ns).map PyData.int))) := by
  unfold opSortedR
  dsimp only
  rw [ints?_map]
  rfl
theorem perm_sum {as bs : List Int} (h : as.Perm bs) : as.sum = bs.sum := by
  induction h with
  | nil => rfl
  | cons x _ ih => rw [List.sum_cons, List.sum_cons, ih]
  | swap x y l => simp only [List.sum_cons]; omega
  | trans _ _ h1 h2 => exact h1.trans h2
theorem sum_nonneg : ∀ {xs : List Int}, (∀ x, x ∈ xs → 0 ≤ x) → 0 ≤ xs.sum
  | [], _ => Int.le_refl 0
  | x :: xs, h => by
    rw [List.sum_cons]
    have := h x (List.mem_cons_self ..)
    have := sum_nonneg fun y hy => h y (List.mem_cons_of_mem x hy)
    omega
theorem mem_le_sum : ∀ {xs : List Int}, (∀ x, x ∈ xs → 0 ≤ x) → ∀ x, x ∈ xs → x ≤ xs.sum
  | y :: xs, h, x, hx => by
    rw [List.sum_cons]
    have h0 := h y (List.mem_cons_self ..)
    have h1 := sum_nonneg fun z hz => h z (List.mem_cons_of_mem y hz)
    rcases List.mem_cons.mp hx with rfl | hx
    · omega
    · have := mem_le_sum (fun z hz => h z (List.mem_cons_of_mem y hz)) x hx
      omega
theorem sum_le_mul {b : Int} : ∀ {xs : List Int}, (∀ x, x ∈ xs → x ≤ b) → xs.sum ≤ b * xs.length
  | [], _ => by simp
  | x :: xs, h => by
    rw [List.sum_cons, List.length_cons]
    have h1 := h x (List.mem_cons_self ..)
    have h2 := sum_le_mul fun y hy => h y (List.mem_cons_of_mem x hy)
    have : b * ((xs.length + 1 : Nat) : Int) = b * xs.length + b := by
      rw [show ((xs.length + 1 : Nat) : Int) = (xs.length : Int) + 1 by omega, Int.mul_add, Int.mul_one]
    omega
end Vm
namespace Vm
open PySem L2 PySem.Spec PyProof.Rows
/-! ### texts made of plain signs -/
def Asc (z : Str) : Prop := ∀ c ∈ z.cps.toList, c < 16 ^ 8
theorem Kd.str {β : Bool} {z : Str} {n : Nat} (h : Asc z) (hn : z.length ≤ n) : Kd β (10 * n + 2) 0 (.str z) := by
  have e := StrLaws.reprText_len z h
  refine ⟨?_, rfl, Nat.le_refl _, fun _ => rfl, fun _ => rfl⟩
  show (reprText z).length ≤ _
  omega
theorem Kd.dict {n m : Nat} {es : List (D × D)} (h : ∀ p, p ∈ es → Kd false n 0 p.1 ∧ Kd false n m p.2) : Kd false (es.length * (2 * n + 4) + 3) (m + 1) (.dict es) := by
  have go : ∀ es : List (D × D), (∀ p, p ∈ es → Kd false n 0 p.1 ∧ Kd false n m p.2) → ((PyData.shownKv es).map (·.length)).sum ≤ es.length * (2 * n + 2) ∧ (PyData.shownKv es).length = es.length ∧ PyData.showableKv es = true ∧ PyData.depthKv es ≤ m ∧ noLsKv es = true := by
    intro es
    induction es with
    | nil => exact fun _ => ⟨Nat.zero_le _, rfl, rfl, Nat.zero_le _, rfl⟩
    | cons p es ih =>
      intro h
      obtain ⟨k, v⟩ := p
      obtain ⟨a, b, c, d, e⟩ := ih fun q hq => h q (List.mem_cons_of_mem _ hq)
      obtain ⟨h1, h2⟩ := h (k, v) (List.mem_cons_self ..)
      have l1 := h1.len
      have l2 := h2.len
      have dk := h1.dp
      refine ⟨?_, ?_, ?_, ?_, ?_⟩
      · simp only [PyData.shownKv, List.map_cons, List.sum_cons, List.length_cons, Nat.add_mul]
        rw [Str.length_append, Str.length_append]
        have : ((": " : String) : Str).length = 2 := rfl
        have l1 : k.shown.length ≤ n := l1
        have l2 : v.shown.length ≤ n := l2
        omega
      · simp only [PyData.shownKv, List.length_cons, b]
      · simp only [PyData.showableKv, c, h1.sh, h2.sh, Bool.and_self]
      · simp only [PyData.depthKv]
        have d1 : k.depth ≤ 0 := dk
        have d2 : v.depth ≤ m := h2.dp
        omega
      · have q1 : noLs k = true := h1.nl rfl
        have q2 : noLs v = true := h2.nl rfl
        simp only [noLsKv, e, q1, q2, Bool.and_self]
  obtain ⟨a, b, c, d, e⟩ := go es h
  refine ⟨?_, by simp only [PyData.showable]; exact c, Nat.succ_le_succ d, (fun z => nomatch z), fun _ => by rw [noLs]; exact e⟩
  simp only [PyData.shown]
  have := dictText_len_le (PyData.shownKv es)
  have e2 : es.length * (2 * n + 4) = es.length * (2 * n + 2) + 2 * es.length := by
    rw [show 2 * n + 4 = 2 * n + 2 + 2 by omega, Nat.mul_add, Nat.mul_comm es.length 2]
  omega
@[simp] theorem opStr_i {i : Int} (h : okr (.int i) = true) : opStr (.d (.int i)) = some (.d (.str (PyData.int i).shown)) := by
  show (if okr (.int i) = true then some (PyData.int i).shown else none).map _ = _
  rw [if_pos h]
  rfl
theorem Kd.ok {n m : Nat} {d : D} (h : Kd true n m d) (x : n ≤ 16000000) (y : m ≤ 60) : Vm.okr d = true := by
  unfold Vm.okr
  rw [Bool.and_eq_true, Bool.and_eq_true, decide_eq_true_eq]
  exact ⟨⟨okd_iff.mpr ⟨h.pl rfl, Nat.le_trans h.dp y⟩, h.sh⟩, Nat.le_trans h.len x⟩
theorem Kd.okd {n m : Nat} {d : D} (h : Kd true n m d) (y : m ≤ 60) : Vm.okd d = true := okd_iff.mpr ⟨h.pl rfl, Nat.le_trans h.dp y⟩
/-- a tuple of ints -/
theorem Kd.ints {b : Bool} {k : Nat} {ns : List Int} (hk : k ≤ 1918) (h : ∀ i, i ∈ ns → Bs k i) : Kd b (ns.length * (k + 4) + 2) 1 (.tuple (ns.map PyData.int)) := by
  have := Kd.tuple (b := b) (n := k + 2) (m := 0) (ds := ns.map PyData.int) fun d hd => by
    obtain ⟨i, hi, rfl⟩ := List.mem_map.mp hd
    exact Kd.int (h i hi) hk
  rw [List.length_map] at this
  exact this
@[simp] theorem mulNegOne {i : Int} : -1 * i = -i := by omega
end Vm
namespace Vm
open PySem L2 PySem.Spec PyProof.Rows
def opRevA : Od → Option Rv
  | .d (.list ds) => some (.new (.l ds.reverse))
  | .d (.tuple ds) => some (.d (.tuple ds.reverse))
  | _ => none
@[simp] theorem opRevA_l {ds : List D} : opRevA (.d (.list ds)) = some (.new (.l ds.reverse)) := Eq.trans rfl rfl
@[simp] theorem opRevA_t {ds : List D} : opRevA (.d (.tuple ds)) = some (.d (.tuple ds.reverse)) := Eq.trans rfl rfl
theorem ok_0 {x : D} {v : List Sl} {Q : Rv → List Cell → Prop} {m : List Cell} (h : Q (.d x) []) : Ok (fin [] (.rt (.d x) ⟨v, m⟩)) Q := ok_d h
theorem w_rD {P : Po} {s : S} {e : CE} {x : D} (m1 : List Cell) (h : ∃ v, Is (e s) (.ok (.d x) ⟨v, m1⟩)) (q : ∀ v, P.rt (.d x) ⟨v, m1⟩) : Wp (cRet e) P s := by
  obtain ⟨v, h⟩ := h
  exact w_ret h (q v)
end Vm
namespace Vm
open PySem PySem.Spec PyProof.Rows L2
/-! ### isinstance of an exception that was kept -/
/-- the classes of the program's exceptions -/
def isSub (m n : String) : Bool := m == n || n == "BallError" || n == "ValueError"
/-- what isinstance says of the known exceptions and the class x -/
structure IsF (K : Fg) (mg : Str → Option Value) (ec : EC) (x : Str) (n : String) : Prop where
  ex : ∃ v c, ClsV v c ∧ (mg x = some c ∨ (mg x = none ∧ bootBuiltins x = some c ∧ x ≠ "__name__")) ∧ ∀ m, m ∈ ec.X → PySem.W.kitOne K (.ref (ec.f m)) c = some (isSub m n)
section
variable {X : Cx} {ec : EC} {W : WX}
/-! ### try: .., except x as n: y = n -/
structure CatF (K : Fg) (mg : Str → Option Value) (ec : EC) (x : Str) (L : List String) : Prop where
  ex : ∃ c, (mg x = some c ∨ (mg x = none ∧ bootBuiltins x = some c ∧ x ≠ "__name__")) ∧ ∀ m, m ∈ L → m ∈ ec.X ∧ PySem.W.exmOne K (.ref (ec.f m)) c = some true
end
end Vm
namespace Vm
open PySem L2 PySem.Spec PyProof.Rows
section
variable {X : Cx} {ec : EC} {W : WX}
/-! ### a written dict of one pair, its key reckoned -/
theorem rd_imp {c : CE} {σ : L2.St} {H : Hp} {Q Q' : VK} (h : rd X.K ec W c σ H Q) (i : ∀ x H, Q x H → Q' x H) : rd X.K ec W c σ H Q' := by
  obtain ⟨w, s, e, hr, h⟩ := h
  exact ⟨w, s, e, hr, Res.mono h (fun rv s' q x w' le r' o f => i _ _ (q x w' le r' o f)) fun _ _ q => q⟩
/-! ### two places of lists, stored one behind the other -/
end
end Vm
namespace Vm
open PySem L2 PySem.Spec PyProof.Rows
/-! ### sorted(xs), ints -/
def sortA (ns : List Int) : List Int := (sortD ns).reverse
theorem sortA_perm (ns : List Int) : (sortA ns).Perm ns := (List.reverse_perm _).trans (sortD_perm ns)
theorem sortA_pw (ns : List Int) : (sortA ns).Pairwise (· ≤ ·) := List.pairwise_reverse.mpr (sortD_pw ns)
def opSorted : Od → Option Rv
  | .d (.list ds) => (ints? ds).bind fun ns => some (.new (.l ((sortA ns).map PyData.int)))
  | _ => none
end Vm
namespace Vm
open PySem PySem.Spec PyProof.Rows L2
/-! ### a lambda without parameters, handed to a def that asks it -/
def cAsk (ask : List Cell → RF) : CE := fun s => match s.v[0]? with
  | some Sl.f => (ask s.m).toR s.v
  | _ => .bad
abbrev EC.at (ec : EC) (w : Wd) (lf : Addr) : EC := { ec with w := w, lf := lf }
end Vm
namespace Vm
open PySem L2 PySem.Spec PyProof.Rows
/-! ### defs that hold lambdas -/
theorem IsF.at {K : Fg} {mg : Str → Option Value} {ec : EC} {x : Str} {n : String} (F : IsF K mg ec x n) {w : Wd} {f : Addr} : IsF K mg (ec.at w f) x n := ⟨F.ex⟩
theorem CatF.at {K : Fg} {mg : Str → Option Value} {ec : EC} {x : Str} {L : List String} (F : CatF K mg ec x L) {w : Wd} {f : Addr} : CatF K mg (ec.at w f) x L := ⟨F.ex⟩
end Vm
namespace Vm
open PySem L2
/-! ### what a def that asks tells -/
@[simp] theorem cAsk_s {ask : List Cell → RF} {v : List Sl} {m : List Cell} : cAsk ask ⟨.f :: v, m⟩ = (ask m).toR (.f :: v) := rfl
end Vm
namespace Vm
open PySem L2
/-! ### lists of numbers, sorted -/
theorem sortD_congr {as bs : List Int} (h : as.Perm bs) : sortD as = sortD bs := sorted_one ((sortD_perm as).trans (h.trans (sortD_perm bs).symm)) (sortD_pw as) (sortD_pw bs)
theorem sortD_len {as : List Int} : (sortD as).length = as.length := (sortD_perm as).length_eq
theorem sortD_sum {as : List Int} : (sortD as).sum = as.sum := perm_sum (sortD_perm as)
theorem sortD_mem {as : List Int} {x : Int} : x ∈ sortD as ↔ x ∈ as := (sortD_perm as).mem_iff
/-! ### loads changed -/
def cSortedL : CS :=
 (cRet (cOp1 opTuple (cOp1 opSortedR (cVar 0))))
def fSortedL : Fn := runF 1 cSortedL
theorem sortedL_ok {ns : List Int} : fSortedL [.d (.list (ns.map PyData.int))] [] = .ok (.d (.tuple ((sortD ns).map PyData.int))) [] := by
  unfold fSortedL
  rw [runF_s]
  simp [cSortedL]
def cChangedAt : CS :=
 (cSeq (cSetM 3 (cOp1 opList (cVar 0)))
 (cSeq (cPutL (cVar 3) (cVar 1) (cOp2 opAdd (cOp2 opIx (cVar 3) (cVar 1)) (cVar 2)))
 (cRet (cCallP fSortedL (lCons (cFz 3) lNil)))))
def fChangedAt : Fn := runF 4 cChangedAt
theorem changed_ok {ns : List Int} {i : Nat} {v : Int} (hi : i < ns.length) : fChangedAt [.d (.tuple (ns.map PyData.int)), .d (.int (i : Nat)), .d (.int v)] [] = .ok (.d (.tuple ((sortD (ns.set i (ns[i] + v))).map PyData.int))) [] := by
  unfold fChangedAt
  refine run_eq ?_
  unfold cChangedAt
  have ix := opIx_ln (ds := ns.map PyData.int) (i := i) (by simpa using hi)
  rw [List.getElem_map] at ix
  refine st (s1 := ⟨[.d (.tuple (ns.map PyData.int)), .d (.int (i : Nat)), .d (.int v), .c 0], [.l (ns.map PyData.int)]⟩) (by simp; exact .rfl) ?_
  have pu := putLR_s (n := 0) (k := (i : Int)) (v := .int (ns[i] + v)) (s3 := ⟨[.d (.tuple (ns.map PyData.int)), .d (.int (i : Nat)), .d (.int v), .c 0], [.l (ns.map PyData.int)]⟩) (xs := ns.map PyData.int) rfl (by omega) (by simp; omega)
  refine st (s1 := ⟨[.d (.tuple (ns.map PyData.int)), .d (.int (i : Nat)), .d (.int v), .c 0], [.l ((ns.set i (ns[i] + v)).map PyData.int)]⟩) ?_ ?_
  · have hs : (ns.map PyData.int).set i (.int (ns[i] + v)) = (ns.set i (ns[i] + v)).map PyData.int := by rw [List.map_set]
    rw [Int.toNat_natCast, hs] at pu
    simp [ix, pu]
    exact .rfl
  have fz := cFz_l (i := 3) (n := 0) (s := ⟨[.d (.tuple (ns.map PyData.int)), .d (.int (i : Nat)), .d (.int v), .c 0], [.l ((ns.set i (ns[i] + v)).map PyData.int)]⟩) rfl rfl
  exact w_rD (x := .tuple ((sortD (ns.set i (ns[i] + v))).map PyData.int)) [.gone] ⟨_, by simp [fz, sortedL_ok, -List.map_set]; exact .rfl⟩ fun _ => ok_0 ⟨rfl, rfl⟩
def fPutAt : Fn := runF 2 (cRet (cCallP fChangedAt (lCons (cVar 0) (lCons (cVar 1) (lCons (cC (.int 1)) lNil)))))
theorem putAt_ok {ns : List Int} {i : Nat} (hi : i < ns.length) : fPutAt [.d (.tuple (ns.map PyData.int)), .d (.int (i : Nat))] [] = .ok (.d (.tuple ((sortD (ns.set i (ns[i] + 1))).map PyData.int))) [] := by
  unfold fPutAt
  rw [runF_s]
  simp [changed_ok (v := 1) hi, -List.map_set]
/-! ### equality of lists of like things -/
theorem plain_tup (ns : List Int) : (PyData.tuple (ns.map PyData.int)).plain = true ∧ (PyData.tuple (ns.map PyData.int)).depth ≤ 59 := by
  refine ⟨by rw [PyData.plain]; exact plain_ints ns, ?_⟩
  show PyData.depthAll (ns.map PyData.int) + 1 ≤ 59
  rw [PySem.W.depth_ints]
  omega
end Vm
namespace Vm
open PySem L2
/-! ### the first k together -/
theorem sum_take {xs : List Int} {i : Nat} (h : i < xs.length) : (xs.take (i + 1)).sum = (xs.take i).sum + xs[i] := by
  rw [List.take_add_one, List.getElem?_eq_getElem h, List.sum_append]
  simp
theorem sum_set (a : Int) : ∀ (xs : List Int) (i : Nat) (h : i < xs.length), (xs.set i a).sum = xs.sum - xs[i] + a
  | x :: xs, 0, _ => by
    show (a :: xs).sum = (x :: xs).sum - x + a
    rw [List.sum_cons, List.sum_cons]
    omega
  | x :: xs, i + 1, h => by
    have := sum_set a xs i (by simpa using h)
    show (x :: xs.set i a).sum = (x :: xs).sum - xs[i]'(by simpa using h) + a
    rw [List.sum_cons, List.sum_cons, this]
    omega
theorem ixN {xs : List Int} {i : Nat} (h : i < xs.length) : opIx (.d (.tuple (xs.map PyData.int))) (.d (.int (i : Nat))) = some (.d (.int xs[i])) := by
  have q := opIx_ti (ns := xs) (i := (i : Nat)) (by omega) (by omega)
  rw [Int.toNat_natCast, List.getD_eq_getElem?_getD, List.getElem?_eq_getElem h, Option.getD_some] at q
  exact q
theorem rangeN_get {n i : Nat} {d : D} (h : ((List.range n).map fun i : Nat => PyData.int (i : Int))[i]? = some d) : i < n ∧ d = .int (i : Nat) := by
  have hi : i < n := by
    have := (List.getElem?_eq_some_iff.mp h).1
    simpa using this
  rw [List.getElem?_map, List.getElem?_range hi] at h
  exact ⟨hi, (Option.some.inj h).symm⟩
/-! ### loads drawn by moves -/
/-- one ball from i to j -/
def mvL (ys : List Int) (i j : Nat) : List Int := (ys.set i (ys.getD i 0 - 1)).set j ((ys.set i (ys.getD i 0 - 1)).getD j 0 + 1)
theorem mvL_len {ys : List Int} {i j : Nat} : (mvL ys i j).length = ys.length := by
  unfold mvL
  rw [List.length_set, List.length_set]
theorem getD_get {xs : List Int} {i : Nat} (h : i < xs.length) : xs.getD i 0 = xs[i] := by rw [List.getD_eq_getElem?_getD, List.getElem?_eq_getElem h, Option.getD_some]
end Vm
namespace Vm
open PySem L2
/-! ### the order of loads, in plain words -/
def Fall (xs : List Int) : Prop := ∀ a b, a < b → b < xs.length → xs.getD b 0 ≤ xs.getD a 0
theorem getD_set {xs : List Int} {i a : Nat} {v : Int} (ha : a < xs.length) : (xs.set i v).getD a 0 = if i = a then v else xs.getD a 0 := by
  rw [getD_get (by rw [List.length_set]; exact ha), List.getElem_set]
  split
  · rfl
  · rw [getD_get ha]
theorem mvL_get {ys : List Int} {i j a : Nat} (hi : i < ys.length) (hj : j < ys.length) (hij : i ≠ j) (ha : a < ys.length) : (mvL ys i j).getD a 0 = ys.getD a 0 - (if a = i then 1 else 0) + (if a = j then 1 else 0) := by
  have ha' : a < (ys.set i (ys.getD i 0 - 1)).length := by rw [List.length_set]; exact ha
  unfold mvL
  rw [getD_set ha', getD_set hj, getD_set ha, if_neg hij]
  by_cases h1 : j = a
  · subst h1
    have h3 : ¬ j = i := fun z => hij z.symm
    simp [hij, h3] <;> omega
  · have h4 : ¬ a = j := fun z => h1 z.symm
    by_cases h2 : i = a
    · subst h2
      simp [h1, hij] <;> omega
    · have h3 : ¬ a = i := fun z => h2 z.symm
      simp [h1, h2, h3, h4] <;> omega
theorem sum_takeD {xs : List Int} {i : Nat} (h : i < xs.length) : (xs.take (i + 1)).sum = (xs.take i).sum + xs.getD i 0 := by
  rw [sum_take h, getD_get h]
/-- ys is no emptier: its first numbers are together no fewer -/
def Maj (xs ys : List Int) : Prop := ∀ k, k ≤ xs.length → (xs.take k).sum ≤ (ys.take k).sum
/-- the next move: to the first box that lacks, from the last one ahead that has more -/
structure Nx (xs ys : List Int) (i j : Nat) : Prop where
  ij : i < j
  jn : j < ys.length
  lack : ys.getD j 0 < xs.getD j 0
  fst : ∀ k, k < j → ¬ ys.getD k 0 < xs.getD k 0
  more : xs.getD i 0 < ys.getD i 0
  lst : ∀ k, i < k → k < j → ¬ xs.getD k 0 < ys.getD k 0
section
variable {xs ys : List Int} {i j : Nat}
theorem Nx.fall (h : Nx xs ys i j) (hl : xs.length = ys.length) (fx : Fall xs) (fy : Fall ys) : Fall (mvL ys i j) := fun a b hab hb => by
  rw [mvL_len] at hb
  have hj := h.jn
  have hij := h.ij
  rw [mvL_get (by omega) hj (by omega) hb, mvL_get (by omega) hj (by omega) (by omega)]
  have e1 := fy a b hab hb
  have e2 := h.lack
  have e3 := h.more
  have e4 := fx i j hij (by omega)
  have e5 : i < b → b < j → ys.getD b 0 ≤ xs.getD b 0 := fun p q => by have := h.lst b p q; omega
  have e6 : i < b → xs.getD b 0 ≤ xs.getD i 0 := fun p => fx i b p (by omega)
  have e7 : j < b → ys.getD b 0 ≤ ys.getD j 0 := fun p => fy j b p hb
  have e8 : a < j → ¬ ys.getD a 0 < xs.getD a 0 := fun p => h.fst a p
  have e9 : a < j → xs.getD j 0 ≤ xs.getD a 0 := fun p => fx a j p (by omega)
  by_cases a1 : a = i
  · subst a1
    rw [if_pos rfl, if_neg (by omega : ¬ a = j), if_neg (by omega : ¬ b = a)]
    by_cases b1 : b = j
    · subst b1
      rw [if_pos rfl]
      omega
    · rw [if_neg b1]
      by_cases b2 : b < j
      · have := e5 hab b2
        have := e6 hab
        omega
      · have := e7 (by omega)
        omega
  · rw [if_neg a1]
    by_cases b1 : b = j
    · subst b1
      have := e8 hab
      have := e9 hab
      rw [if_neg (by omega : ¬ b = i), if_pos rfl, if_neg (by omega : ¬ a = b)]
      omega
    · rw [if_neg b1]
      split <;> split <;> omega
end
/-- a list of moves leads from ys on to xs -/
def Leads : List (Nat × Nat) → List Int → List Int → Prop
  | [], ys, xs => ys = xs
  | q :: qs, ys, xs => q.1 < ys.length ∧ q.2 < ys.length ∧ ys.getD q.2 0 + 2 ≤ ys.getD q.1 0 ∧ Leads qs (sortD (mvL ys q.1 q.2)) xs
end Vm
namespace Vm
open PySem L2
def prN (q : Nat × Nat) : D := .tuple [.int (q.1 : Int), .int (q.2 : Int)]
@[simp] theorem prN_0 {q : Nat × Nat} : opIx (.d (prN q)) (.d (.int 0)) = some (.d (.int (q.1 : Int))) := rfl
@[simp] theorem prN_1 {q : Nat × Nat} : opIx (.d (prN q)) (.d (.int 1)) = some (.d (.int (q.2 : Int))) := rfl
/-! ### the next move -/
end Vm
namespace Vm
open PySem L2 PySem.Spec PyProof.Rows
/-! ### a list lent to a call that tells a plain answer -/
/-- the argument is our list at i, as it stands when the call begins; it stays ours -/
def lLend (i : Nat) (cl : CL) : CL := fun s => match s.v[i]? with
  | some (.c _) => (cl s).bind fun r s2 => match s2.v[i]? with
    | some (.c n) => match s2.m[n]? with
      | some (.l ds) => .ok (.d (.list ds) :: r) s2
      | _ => .bad
    | _ => .bad
  | _ => .bad
def D.imm : D → Bool
  | .none => true
  | .bool _ => true
  | .int _ => true
  | .str _ => true
  | _ => false
def RF.lent (s : S) : RF → R Rv
  | .ok (.d x) _ => if D.imm x = true then .ok (.d x) s else .bad
  | .ex e _ => .ex e s
  | _ => .bad
def cCallV (f : Fn) (cl : CL) : CE := fun s => (cl s).bind fun as s1 => if as.all Sl.isD = true then (f as []).lent s1 else .bad
/-- the ground with what is lent -/
structure Lnt (w : Wd) (G : Hp) : Prop where
  g : Same w.G G
  h : Same G w.H
  t : NoTG G
  r : ∀ b o, G b = some o → w.G b = some o ∨ b ∈ w.r
def rdV (K : Fg) (ec : EC) (W : WX) (c : CL) : TA := fun σ H Q => ∃ w s, w.H = H ∧ Rel ec K w σ s ∧ Res (fun as s' => ∀ vs w' G, Le w w' → Rel ec K w' σ s' → Lnt w' G → ArgsOk ec K ⟨G, w'.r, w'.F, w'.H⟩ vs as → Q vs w'.H) (okE K ec W σ w) (c s)
section
variable {X : Cx} {ec : EC} {W : WX}
theorem v_nil : PA X [] (rdV X.K ec W lNil) := PA.imp pa_nil fun σ H Q h => by
  obtain ⟨w, s, rfl, hr, h⟩ := h
  exact h [] w w.G (Le.refl w) hr ⟨Same.refl _, hr.mem.ext, hr.mem.gt, fun _ _ e => .inl e⟩ .nil
theorem v_cons {e : Expr} {es : List Expr} {c : CE} {cl : CL} (h1 : Ex X ec W e c) (h2 : PA X es (rdV X.K ec W cl)) (hs : starEach (e :: es) X.env = (false, eval e X.env) :: starEach es X.env := by rfl) : PA X (e :: es) (rdV X.K ec W (lCons c cl)) :=
  PA.imp (pa_cons h1 h2 hs) fun σ H Q h => by
    obtain ⟨w, s, rfl, hr, h⟩ := h
    show rd X.K ec W c σ w.H _
    refine run_cv hr h fun x w1 s1 a le1 hr1 ha hn h1 => ?_
    cases a with
    | ref n =>
      simp only [slOf] at h1
      refine ⟨w1, s1, rfl, hr1, ?_⟩
      refine Res.mono h1.bind (fun as s2 h2 vs w2 G le2 hr2 ln rp => ?_) fun _ _ q => okE_le le1 q
      obtain ⟨p, e1, e2⟩ := ha
      exact h2 (x :: vs) w2 G (le1.trans le2) hr2 ln (.cons ⟨p, by rw [e1], le2.cell e2⟩ rp)
    | t b es =>
      simp only [slOf] at h1
      refine ⟨w1, s1, rfl, hr1, ?_⟩
      refine Res.mono h1.bind (fun as s2 h2 vs w2 G le2 hr2 ln rp => ?_) fun _ _ q => okE_le le1 q
      exact h2 (x :: vs) w2 G (le1.trans le2) hr2 ln (.cons ⟨x, rfl, VtOk.mono (le2.g.trans ln.g) (fun k p q => le2.cell q) ha⟩ rp)
    | new c => exact absurd rfl (hn c)
    | d y =>
      simp only [slOf] at h1
      refine ⟨w1, s1, rfl, hr1, ?_⟩
      refine Res.mono h1.bind (fun as s2 h2 vs w2 G le2 hr2 ln rp => ?_) fun _ _ q => okE_le le1 q
      exact h2 (x :: vs) w2 G (le1.trans le2) hr2 ln (.cons ⟨x, rfl, Rp.mono (le2.g.trans ln.g) _ _ ha⟩ rp)
theorem v_lend (i : Nat) {x : Str} {pos : Pos} {es : List Expr} {cl : CL} (h2 : PA X es (rdV X.K ec W cl)) (hN : X.N[i]? = some x := by rfl) (hv : Vis X.env.scope x := by first | exact Or.inl rfl | exact Or.inr (Or.inl rfl) | exact Or.inr (Or.inr rfl)) (hd : (x == ("__debug__" : Str)) = false := by decide)
    (hcd : (x == ("__classdict__" : Str)) = false := by decide) (hs : starEach (.Name x pos :: es) X.env = (false, eval (.Name x pos) X.env) :: starEach es X.env := by rfl) : PA X (.Name x pos :: es) (rdV X.K ec W (lLend i cl)) :=
  PA.imp (pa_cons (pe_var hN hv hd hcd) h2 hs) fun σ H Q h => by
    obtain ⟨w, s, rfl, hr, h⟩ := h
    unfold lLend at h
    split at h
    · rename_i n0 e0
      obtain ⟨p0, e1, e2⟩ := hr.slot i _ e0
      refine ⟨.ref p0, e1, ⟨w, s, rfl, hr, ?_⟩⟩
      refine Res.mono h.bind (fun as s2 h2 vs w2 G le2 hr2 ln rp => ?_) fun _ _ q => q
      split at h2
      · rename_i n e3
        obtain ⟨p, e4, e5⟩ := hr2.slot i _ e3
        have ep : p = p0 := by
          rw [e4] at e1
          cases e1
          rfl
        subst ep
        split at h2
        · rename_i ds e6
          obtain ⟨hg, us, hv, ra⟩ := hr2.mem.cell n p _ e5 e6
          have sg : Same G (upd G p (.lst us)) := fun b o e => by
            by_cases hb : b = p
            · subst hb
              have := ln.h _ _ e
              rw [hv] at this
              cases this
              exact upd_same
            · rw [upd_ne hb]
              exact e
          have ln2 : Lnt w2 (upd G p (.lst us)) := ⟨ln.g.trans sg, fun b o e => by
            by_cases hb : b = p
            · subst hb
              rw [upd_same] at e
              cases e
              exact hv
            · rw [upd_ne hb] at e
              exact ln.h _ _ e, noTG_upd ln.t noTb_l, fun b o e => by
            by_cases hb : b = p
            · subst hb
              exact .inr (List.mem_of_getElem? e5)
            · rw [upd_ne hb] at e
              exact ln.r _ _ e⟩
          refine h2 (.ref p :: vs) w2 _ le2 hr2 ln2 (.cons ⟨.ref p, rfl, .lst (SqL.of upd_same) (ra.mono (ln.g.trans sg))⟩ ?_)
          exact Paired.mapP rp fun v sl q => by
            cases sl with
            | u => trivial
            | d y =>
              obtain ⟨u, a, b⟩ := q
              exact ⟨u, a, b.mono sg⟩
            | c n => exact q
            | x n => exact q
            | f => exact q
            | t b es =>
              obtain ⟨u, a, z⟩ := q
              exact ⟨u, a, z.mono sg fun _ _ h => h⟩
        · exact h2.elim
      · exact h2.elim
    · exact h.elim
theorem e_callV {k : Nat} {ps : List Str} {f : Fn} {x : Str} {p pos : Pos} {e : Expr} {es : List Expr} {cl : CL} (C : Cal X.prog X.w X.K X.mg X.base ec x ps f k) (hr : Rg k X.A)
    (tk : Takes X W) (ha : PA X (e :: es) (rdV X.K ec W cl)) (hl : LLen ps.length cl) (hg : Gl X x := by rfl) (hdb : (x == ("__debug__" : Str)) = false := by decide) (he : starEach (e :: es) X.env = (false, eval e X.env) :: starEach es X.env := by rfl)
    (hpl : (backTo pos (starEach es X.env)).any (·.1) = false := by rfl) (hw : Bas ec.w := by assumption) : Ex X ec W (.Call (.Name x p) (e :: es) [] pos) (cCallV f cl) := by
  obtain ⟨fa, fd, oc, od, osl, lk, F, hm, hk, hb⟩ := C
  exact (pe_callG F hr hg hm hk hb (fun σ => passAt tk σ) ha hdb he hpl).imp fun σ H Q h => by
    obtain ⟨w, s, rfl, hr, h⟩ := h
    refine ⟨w, s, rfl, hr, ?_⟩
    unfold cCallV at h
    cases e1 : cl s with
    | bad => rw [e1] at h; exact h
    | ex n s' => rw [e1] at h; exact h
    | ok as s1 =>
      rw [e1] at h
      intro vs w1 G le1 r1 ln ao
      have h1 : Res (okV ec X.K w σ Q) (okE X.K ec W σ w) (if as.all Sl.isD = true then (f as []).lent s1 else .bad) := h
      by_cases hd : as.all Sl.isD = true
      · rw [if_pos hd] at h1
        have gn : ∀ p, w1.F p → G p = none := fun p hp => by
          obtain ⟨a, b, _⟩ := r1.mem.fo p hp
          cases e : G p with
          | none => rfl
          | some o =>
            rcases ln.r p o e with z | z
            · rw [a] at z
              cases z
            · exact absurd z b
        have out : ∀ {w2 : Wd} {m' : List Cell}, Le ⟨G, [], fun p => w1.F p ∨ (p ∈ w1.r ∧ G p = none), w1.H⟩ w2 → Mem ec X.K w2 m' → Rel ec X.K ⟨w1.G, w1.r, w1.F, w2.H⟩ σ s1 ∧ Le w1 ⟨w1.G, w1.r, w1.F, w2.H⟩ := fun {w2 m'} le mm => by
          have kp : ∀ a o, w1.H a = some o → ∃ o', w2.H a = some o' ∧ (NoTb o → o' = o) := fun a o e => le.k a o e (by simp)
          have kn : ∀ a o, w1.H a = some o → NoTb o → w2.H a = some o := fun a o e n => by
            obtain ⟨o', e1, q⟩ := kp a o e
            rw [e1, q n]
          have le' : Le w1 ⟨w1.G, w1.r, w1.F, w2.H⟩ := ⟨Same.refl _, fun a o e _ => kp a o e, List.prefix_refl _, fun _ h => .inl h, rfl⟩
          refine ⟨⟨⟨fun b o e => kn b o (r1.mem.ext b o e) (r1.mem.gt b o e), r1.mem.len, r1.mem.nd, fun n q c h1 h2 => ?_, fun q hq => ?_, r1.mem.tab.back mm.tab, r1.mem.inv.trans (le'.ch _), r1.mem.gt, nv_back kp r1.mem.nv fun p hp => mm.nv.2 p (by rw [le.s]; exact .inl hp)⟩, r1.len, fun i sl e => slOk_mono le' (r1.slot i sl e)⟩, le'⟩
          · have c0 := r1.mem.cell n q c h1 h2
            cases c with
            | l ds =>
              obtain ⟨g0, us, hv, ra⟩ := c0
              exact ⟨g0, us, kn _ _ hv noTb_l, ra⟩
            | k ds =>
              obtain ⟨g0, us, hv, ra⟩ := c0
              exact ⟨g0, us, kn _ _ hv noTb_k, ra⟩
            | t ds =>
              obtain ⟨g0, us, hv, ra⟩ := c0
              exact ⟨g0, us, kn _ _ hv noTb_t, ra⟩
            | r ds =>
              obtain ⟨g0, us, hv, ra⟩ := c0
              exact ⟨g0, us, kn _ _ hv noTb_t, ra⟩
            | i n' j' ds =>
              obtain ⟨g0, us, hv, ra⟩ := c0
              exact ⟨g0, us, kn _ _ hv noTb_l, ra⟩
            | g x =>
              obtain ⟨g0, o1, hv, ra⟩ := c0
              exact ⟨g0, o1, kn _ _ hv ra.ntb, ra⟩
            | gone => exact c0
          · obtain ⟨z1, z2, o, z3⟩ := r1.mem.fo q hq
            obtain ⟨o', z4, _⟩ := kp q o z3
            exact ⟨z1, z2, o', z4⟩
        refine ⟨by rw [paired_len ao]; exact hl _ _ _ e1, ⟨G, [], fun p => w1.F p ∨ (p ∈ w1.r ∧ G p = none), w1.H⟩, [], as, rfl, ⟨ln.h, rfl, List.nodup_nil, fun n p c h _ => by simp at h, fun p hp => ?_, r1.mem.tab.f fun _ h => .inl h, hw.le (r1.mem.inv.g.trans ln.g) ln.h rfl, ln.t, ⟨fun t q n j ds e1 => by simp at e1, fun p hp => hp.elim (fun hp => r1.mem.nv.2 p hp) fun hp => .inr (by obtain ⟨n, e⟩ := List.getElem?_of_mem hp.1; exact r1.liveT e (by cases e2 : w1.G p with | none => rfl | some o => have := ln.g _ _ e2; rw [hp.2] at this; cases this))⟩⟩, args_data (w := ⟨G, w1.r, w1.F, w1.H⟩) (w' := ⟨G, [], fun p => w1.F p ∨ (p ∈ w1.r ∧ G p = none), w1.H⟩) rfl ao hd, ?_⟩
        · rcases hp with hp | hp
          · obtain ⟨a, b, c⟩ := r1.mem.fo p hp
            exact ⟨gn p hp, by simp, c⟩
          · exact ⟨hp.2, by simp, r1.live hp.1⟩
        · cases e2 : f as [] with
          | bad => rw [e2] at h1; exact h1
          | ex n m' =>
            rw [e2] at h1
            intro w2 le2 m2
            obtain ⟨r3, le3⟩ := out le2 m2
            exact h1 ⟨w1.G, w1.r, w1.F, w2.H⟩ (le1.trans le3) r3
          | ok a m' =>
            rw [e2] at h1
            intro x w2 le2 m2 o fr
            obtain ⟨r3, le3⟩ := out le2 m2
            cases a with
            | ref n => exact h1.elim
            | t _ _ => exact h1.elim
            | new c => exact h1.elim
            | d y =>
              by_cases hi : D.imm y = true
              · have h2 : okV ec X.K w σ Q (.d y) s1 := by
                  have h1 : Res (okV ec X.K w σ Q) (okE X.K ec W σ w) (if D.imm y = true then .ok (.d y) s1 else .bad) := h1
                  rw [if_pos hi] at h1
                  exact h1
                have ry : Rp X.K w1.G x y := by
                  have o : Rp X.K w2.G x y := o
                  cases o with
                  | non => exact .non
                  | bl b => exact .bl b
                  | int i => exact .int i
                  | str z => exact .str z
                  | _ => cases hi
                exact h2 x ⟨w1.G, w1.r, w1.F, w2.H⟩ (le1.trans le3) r3 ry .d
              · have h1 : Res (okV ec X.K w σ Q) (okE X.K ec W σ w) (if D.imm y = true then .ok (.d y) s1 else .bad) := h1
                rw [if_neg hi] at h1
                exact h1.elim
      · rw [if_neg hd] at h1
        exact h1.elim
theorem ll_lend {n i : Nat} {cl : CL} (h : LLen n cl) : LLen (n + 1) (lLend i cl) := fun s as s' e => by
  unfold lLend at e
  split at e
  · cases e1 : cl s with
    | bad => rw [e1] at e; cases e
    | ex n s' => rw [e1] at e; cases e
    | ok r s2 =>
      rw [e1] at e
      simp only [R.bind] at e
      split at e
      · split at e
        · cases e
          rw [List.length_cons, h _ _ _ e1]
        · cases e
      · cases e
  · cases e
end
theorem lLend_s {i n : Nat} {cl : CL} {s s2 : S} {n0 : Nat} {ds : List D} {as : List Sl} (h0 : s.v[i]? = some (.c n0)) (h : cl s = .ok as s2) (h1 : s2.v[i]? = some (.c n)) (h2 : s2.m[n]? = some (.l ds)) : lLend i cl s = .ok (.d (.list ds) :: as) s2 := by
  unfold lLend
  rw [h0]
  dsimp only
  rw [h]
  simp only [R.bind]
  rw [h1]
  dsimp only
  rw [h2]
end Vm
namespace Vm
open PySem L2
theorem cCallV_s {f : Fn} {cl : CL} {s s1 : S} {as : List Sl} {x : D} {m' : List Cell} (h : cl s = .ok as s1) (ha : as.all Sl.isD = true) (e : f as [] = .ok (.d x) m') (hi : D.imm x = true) : cCallV f cl s = .ok (.d x) s1 := by
  unfold cCallV
  rw [h]
  simp only [R.bind, ha, e, RF.lent, hi, if_true]
end Vm
namespace Vm
open PySem L2
/-! ### what is a share -/
/-! ### things -/
theorem bs_up {j k : Nat} {i : Int} (h : Bs j i) (hk : j ≤ k) : Bs k i := Nat.lt_of_lt_of_le h (Nat.pow_le_pow_right (by decide) hk)
theorem k1 {β : Bool} {d : D} {n m : Nat} (h : Kd β n m d) : Kd β (n + 4) (m + 1) (.tuple [d]) := (Kd.tuple (n := n) (m := m) fun d' hd => by
  rw [List.mem_singleton.mp hd]
  exact h).mono (by simp) (Nat.le_refl _)
/-! ### lowest terms, from 0 on -/
def cLawLowest : CS :=
 (cSeq (cSet 2 (cCallP fMeasure (lCons (cVar 0) (lCons (cVar 1) lNil))))
 (cRet (cTup (cCons (cOp2 opDiv (cVar 0) (cVar 2)) (cCons (cOp2 opDiv (cVar 1) (cVar 2)) cNil)))))
def fLawLowest : Fn := runF 3 cLawLowest
theorem lowest_eq {t u : Int} (h : 0 ≤ t) : fLawLowest [.d (.int t), .d (.int u)] [] = fReduced [.d (.int t), .d (.int u)] [] := by
  have h1 : ¬ t < 0 := by omega
  unfold fLawLowest fReduced
  rw [runF_s, runF_s]
  simp [cLawLowest, cReduced, h1]
theorem lowest_ok {top bot : Int} {j k : Nat} (h0 : 0 ≤ top) (hb : 1 ≤ bot) (ht : Bs j top) (hk : Bs k bot) (hk2 : k ≤ 8900) :
    ∃ p q, fLawLowest [.d (.int top), .d (.int bot)] [] = .ok (.d (shD p q)) [] ∧ Sh (max j k) p q ∧ p * bot = top * q := by
  rw [lowest_eq h0]
  exact reduced_ok hb ht hk hk2
/-! ### what is a rule -/
def ratD : D → Rat
  | .tuple [.int p, .int q] => (p : Rat) / q
  | _ => 0
end Vm
namespace Vm
open PySem L2
/-! ### the rules' module -/
def cBySums : CS :=
 (cSeq (cSetM 1 (cLst cNil))
 (cSeq (cSet 2 (cTup (cCons (cC (.int 0)) (cCons (cC (.int 1)) cNil))))
 (cSeq (cFor (ciSeq (cVar 0)) (tgN 3)
 (cSeq (cExp (cMut fApp (cVar 1) (cCons (cCallP fMinus (lCons (cVar 3) (lCons (cVar 2) lNil))) cNil)))
 (cSet 2 (cVar 3))))
 (cRet (cOp1 opTuple (cVar 1))))))
def fBySums : Fn := runF 4 cBySums
def cPower : CS :=
 (cSeq (cSet 2 (cC (.int 1)))
 (cSeq (cFor (ciR1 (cVar 1)) (tgN 3)
 (cSet 2 (cOp2 opMulV (cVar 2) (cVar 0))))
 (cRet (cVar 2))))
def fPower : Fn := runF 4 cPower
def cSetsOf : CS :=
 (cSeq (cSet 2 (cC (.int 1)))
 (cSeq (cFor (ciR1 (cVar 1)) (tgN 3)
 (cSet 2 (cOp2 opDiv (cOp2 opMulV (cVar 2) (cOp2 opSub (cVar 0) (cVar 3))) (cOp2 opAdd (cVar 3) (cC (.int 1))))))
 (cRet (cVar 2))))
def fSetsOf : Fn := runF 4 cSetsOf
def cDrawn : CS :=
 (cRet (cCallP fBySums (lCons (cLc [2] (ciR1 (cVar 0)) (tgN 2) ctYes (cCallP fShare (lCons (cCallP fPower (lCons (cOp2 opAdd (cVar 2) (cC (.int 1))) (lCons (cVar 1) lNil))) (lCons (cCallP fPower (lCons (cVar 0) (lCons (cVar 1) lNil))) lNil)))) lNil)))
def fDrawn : Fn := runF 3 cDrawn
def cUnlike : CS :=
 (cRet (cCallP fBySums (lCons (cLc [2] (ciR1 (cVar 0)) (tgN 2) ctYes (cCallP fShare (lCons (cCallP fSetsOf (lCons (cOp2 opAdd (cVar 2) (cC (.int 1))) (lCons (cVar 1) lNil))) (lCons (cCallP fSetsOf (lCons (cVar 0) (lCons (cVar 1) lNil))) lNil)))) lNil)))
def fUnlike : Fn := runF 3 cUnlike
def cWeightsB : CS :=
 (cSeq (cSet 2 (cCall fDrawB (lCons (cVar 0) (lCons (cC (.int 6)) lNil))))
 (cSeq (cSetM 3 (cLc [5] (ciR1 (cVar 1)) (tgN 5) ctYes (cCall fDrawB (lCons (cVar 0) (lCons (cOp2 opIx (cLst (cCons (cC (.int 10)) (cCons (cC (.int 2)) (cCons (cC (.int 4)) (cCons (cC (.int 10)) (cCons (cC (.int 10)) (cCons (cC (.int 80)) cNil))))))) (cVar 2)) lNil)))))
 (cSeq (cSet 4 (cCall fDrawB (lCons (cVar 0) (lCons (cVar 1) lNil))))
 (cSeq (cIfS (cB (cOp2 opEq (cVar 2) (cC (.int 3))))
 (cSetM 3 (cLc [5] (ciR1 (cVar 1)) (tgN 5) ctYes (cOp1 opInt (cOp2 opEq (cVar 5) (cVar 4)))))
 cNx)
 (cSeq (cIfS (cB (cOp2 opEq (cVar 2) (cC (.int 4))))
 (cSetM 3 (cOp2 opAdd (cOp2 opMulV (cLst (cCons (cC (.int 0)) cNil)) (cVar 4)) (cSl (cVar 3) (cPt (some (cVar 4))) (cPt none))))
 cNx)
 (cSeq (cIfS (cB (cOp2 opEq (cOp1 opSum (cVar 3)) (cC (.int 0))))
 (cPutL (cVar 3) (cVar 4) (cOp2 opAdd (cC (.int 1)) (cCall fDrawB (lCons (cVar 0) (lCons (cC (.int 9)) lNil)))))
 cNx)
 (cRet (cVar 3))))))))
def fWeightsB : Fn := runF 6 cWeightsB
def cRuleB : CS :=
 (cRet (cOp1 opTuple (cLc [1] (ciSeq (cVar 0)) (tgN 1) ctYes (cCallP fLawLowest (lCons (cVar 1) (lCons (cOp1 opSum (cVar 0)) lNil))))))
def fRuleB : Fn := runF 2 cRuleB
/-! ### weights and rules drawn -/
/-- a told rule: so many shares, none below 0, of so many bits -/
def IsRl (k n : Nat) (ds : List D) : Prop := ds.length = n ∧ ∀ d, d ∈ ds → ∃ p q, d = .tuple [.int p, .int q] ∧ Sh k p q ∧ 0 ≤ p
theorem IsRl.mono {j k n : Nat} {ds : List D} (h : IsRl j n ds) (q : j ≤ k) : IsRl k n ds := ⟨h.1, fun d hd => by
  obtain ⟨p, q', e, s, z⟩ := h.2 d hd
  exact ⟨p, q', e, s.mono q, z⟩⟩
/-! ### mixtures -/
theorem IsRl.tell {k n : Nat} {ds : List D} (h : IsRl k n ds) {d : D} (hd : d ∈ ds) : Tell k d (ratD d) ∧ 0 ≤ ratD d := by
  obtain ⟨p, q, rfl, s, p0⟩ := h.2 d hd
  have hq := rat_ne s.pos
  refine ⟨⟨p, q, rfl, s, ?_⟩, ?_⟩
  · show (p : Rat) = (p : Rat) / q * q
    grind
  · show (0 : Rat) ≤ (p : Rat) / q
    have h1 : (0 : Rat) ≤ p := Rat.intCast_nonneg.mpr p0
    have h2 := rat_pos s.pos
    refine Rat.not_lt.mp fun z => ?_
    have h3 := (Rat.mul_lt_mul_right h2).mpr z
    have h4 : (p : Rat) / q * q = p := by grind
    rw [h4, Rat.zero_mul] at h3
    exact absurd h1 (Rat.not_le.mpr h3)
/-! ### the word of an exception -/
end Vm
namespace Vm
open PySem L2
/-! ### the third pen: a list -/
def penL (cells : List Int) (at' left : Int) : Cell := .l [.list (cells.map PyData.int), .int at', .int left]
structure IsPenL (B : Nat) (p : Cell) : Prop where
  ex : ∃ cells at' left, p = penL cells at' left ∧ cells.length ≤ 63 ∧ 0 ≤ at' ∧ at' ≤ B ∧ 0 ≤ left
theorem IsPenL.mono {B C : Nat} {p : Cell} (h : IsPenL B p) (hb : B ≤ C) : IsPenL C p := by
  obtain ⟨a, b, c, h1, h2, h3, h4, h5⟩ := h.ex
  exact ⟨a, b, c, h1, h2, h3, by omega, h5⟩
@[simp] theorem setMR_penL {i : Nat} {a : List Int} {b c : Int} {s1 : S} : setMR i (.new (penL a b c)) s1 = .nx ⟨s1.v.set i (.c s1.m.length), s1.m ++ [penL a b c]⟩ := Eq.trans rfl rfl
@[simp] theorem pure_penL {a : List Int} {b c : Int} {m : List Cell} {s : S} : (RF.ok (.new (penL a b c)) m).pure s = .ok (.new (penL a b c)) s := Eq.trans rfl rfl
/-! ### lowest terms, the third way -/
end Vm
namespace Vm
open PySem L2
@[simp] theorem opSorted_s {ns : List Int} : opSorted (.d (.list (ns.map PyData.int))) = some (.new (.l ((sortA ns).map PyData.int))) := by
  unfold opSorted
  dsimp only
  rw [ints?_map]
  rfl
theorem rangeD_map (lo : Int) (n : Nat) : rangeD lo n = (List.range n).map fun k : Nat => PyData.int (lo + k) := by
  refine List.ext_getElem (by rw [rangeD_len, List.length_map, List.length_range]) fun i h1 h2 => ?_
  have := (rangeD_lt (List.getElem?_eq_getElem h1)).2
  rw [this]
  simp
/-! ### rules drawn, the third way -/
end Vm
namespace Vm
open PySem L2 PySem.Spec PyProof.Rows
/-! ### {} whose keys will be tuples -/
def cNewT : CE := fun s => .ok (.new (.t [])) s
def cNewR : CE := fun s => .ok (.new (.r [])) s
@[simp] theorem cNewT_s {s : S} : cNewT s = .ok (.new (.t [])) s := Eq.trans rfl rfl
@[simp] theorem cNewR_s {s : S} : cNewR s = .ok (.new (.r [])) s := Eq.trans rfl rfl
section
variable {X : Cx} {ec : EC} {W : WX}
theorem rd_newT {c : Cell} (hc : ∀ (G H : Hp) (p : Addr), G p = none → COk X.K G (upd H p (.dT [])) p c) {σ : L2.St} {H : Hp} {Q : VK} (h : rd X.K ec W (fun s => .ok (.new c) s) σ H Q) : ∀ p, H p = none → Q (.ref p) (upd H p (.dT [])) := by
  obtain ⟨w, s, rfl, hr, h⟩ := h
  intro p hp
  have hh := hr.hold (o := .dT []) hp
  obtain ⟨h3, h4, _⟩ := hh.mem.fo p (.inr rfl)
  have r3 : Rel ec X.K ⟨w.G, w.r, w.F, upd w.H p (.dT [])⟩ σ s := hh.f (fun q hq => hh.mem.fo q (.inl hq)) (hr.mem.tab.back hh.mem.tab) fun q hq => hh.mem.nv.2 q (.inl hq)
  have l3 : Le w ⟨w.G, w.r, w.F, upd w.H p (.dT [])⟩ := by
    have l1 := (Le.hold (w := w) (o := .dT []) hp)
    refine ⟨l1.g, fun a u e n => ⟨u, ?_, fun _ => rfl⟩, l1.p, fun _ h => .inl h, rfl⟩
    show upd w.H p _ a = some u
    rw [upd_ne (ne_of_none e hp)]
    exact e
  have nf : ¬ w.F p := fun z => by
    obtain ⟨_, _, u, hu⟩ := hr.mem.fo p z
    rw [hp] at hu
    cases hu
  exact h (.ref p) ⟨w.G, w.r, w.F, upd w.H p (.dT [])⟩ l3 r3 ⟨p, rfl, ⟨h4, nf⟩, hc _ _ _ h3⟩ fun _ _ p' e => by
    cases e
    exact hp
theorem e_newT {pos : Pos} : Ex X ec W (.Dict [] [] pos) cNewT := pe_dnewT.imp fun σ H Q h => rd_newT (c := .t []) (fun G H p hg => ⟨hg, [], upd_same, .nil⟩) h
theorem e_newR {pos : Pos} : Ex X ec W (.Dict [] [] pos) cNewR := pe_dnewT.imp fun σ H Q h => rd_newT (c := .r []) (fun G H p hg => ⟨hg, [], upd_same, rfl⟩) h
/-! ### a dict that will not change any more is locked: from then on it is data -/
theorem PE_lock {e : Expr} {t : TE} (h : PE X e t) : PE X e (fun σ H Q => t σ H fun x H1 => Q x H1 ∨ ∃ d ws, x = .ref d ∧ H1 d = some (.dT ws) ∧ ∀ od, Q x (upd H1 d (.frz od (.dT ws)))) :=
  ⟨fun pins s σ H Q I q => thn (h.run pins s σ H _ I q) fun u s1 hs => by
    obtain ⟨v, H1, I1, rv, q | ⟨d, ws, rfl, hd, q⟩⟩ := hs
    · exact ⟨v, H1, I1, rv, q⟩
    · obtain ⟨od, I2⟩ := I1.lock hd trivial
      exact ⟨.ref d, _, I2, rv, q od⟩⟩
def tD (kvs : List (List L2.Key × D)) : D := .dict (tagT :: kvs.map fun p => (tupK p.1, p.2))
theorem rpKt_of {K : Fg} {G : Hp} : ∀ {ws : List (List L2.Key × V)} {kvs : List (List L2.Key × D)}, KvAll K G ws kvs → RpKt K G ws (kvs.map fun p => (tupK p.1, p.2))
  | _, _, .nil => .nil
  | (k, v) :: ws, (k', d) :: kvs, .cons r t => by
    obtain ⟨e, r⟩ := r
    have e : k = k' := e
    subst e
    exact .cons r (rpKt_of t)
theorem lockW {K : Fg} {w : Wd} {σ : L2.St} {s : S} {p : Addr} {ws : List (List L2.Key × V)} {kvs : List (List L2.Key × D)} {od : Obj} {m2 : List Cell} (r : Rel ec K w σ s) (hF : ¬ w.F p) (hg : w.G p = none) (hv : w.H p = some (.dT ws)) (kv : KvAll K w.G ws kvs) (hz : ∀ o, ec.w.H p = some o → p ∈ ec.w.r)
    (hl : m2.length = s.m.length) (h1 : ∀ (k : Nat) (c : Cell), m2[k]? = some c → w.r[k]? ≠ some p → s.m[k]? = some c) (h2 : ∀ (k : Nat) (c : Cell), m2[k]? = some c → w.r[k]? = some p → c = .gone) :
    Rel ec K ⟨upd w.G p (.frz od (.dT ws)), w.r, w.F, upd w.H p (.frz od (.dT ws))⟩ σ ⟨s.v, m2⟩ ∧ Rp K (upd w.G p (.frz od (.dT ws))) (.ref p) (tD kvs) := by
  have sg : Same w.G (upd w.G p (.frz od (.dT ws))) := same_upd hg
  have hh : ∀ q, q ≠ p → upd w.H p (.frz od (.dT ws)) q = w.H q := fun q hq => upd_ne hq
  refine ⟨⟨⟨fun b o e => ?_, by rw [hl]; exact r.mem.len, r.mem.nd, fun n q c e1 e2 => ?_, fun q hq => ?_, r.mem.tab.put hv noTb_t (noX_of fun _ z => by cases z).1, ⟨r.mem.inv.g.trans sg, fun a o e n => ?_, r.mem.inv.p, r.mem.inv.f, rfl⟩, noTG_upd r.mem.gt (fun _ z => by cases z), fun t q n j ds e1 e2 => ?_, fun q hq => ?_⟩, r.len, fun i sl e => ?_⟩, .dctT upd_same ((rpKt_of kv).mono sg)⟩
  · show upd w.H p _ b = some o
    have e : upd w.G p (.frz od (.dT ws)) b = some o := e
    by_cases hb : b = p
    · subst hb
      rw [upd_same] at e ⊢
      exact e
    · rw [upd_ne hb] at e ⊢
      exact r.mem.ext _ _ e
  · have e2 : m2[n]? = some c := e2
    by_cases hq : q = p
    · subst hq
      rw [h2 n c e2 e1]
      exact ⟨_, upd_same⟩
    · have c0 := r.mem.cell n q c e1 (h1 n c e2 fun z => by
        have e1 : w.r[n]? = some q := e1
        rw [e1] at z
        exact hq (Option.some.inj z))
      refine cOk_mono sg (fun hc => ?_) (fun o _ e => by show upd w.H p _ q = _; rw [hh q hq]; exact e) c0
      show upd w.G p _ q = none
      rw [upd_ne hq]
      cases c with
      | l ds => exact c0.1
      | k kvs => exact c0.1
      | t kvs => exact c0.1
      | r ks => exact c0.1
      | i n' j' ds => exact c0.1
      | g x => exact c0.1
      | gone => exact absurd rfl hc
  · obtain ⟨a, b, o, ho⟩ := r.mem.fo q hq
    have hqp : q ≠ p := fun z => by
      subst z
      exact hF hq
    exact ⟨by show upd w.G p _ q = none; rw [upd_ne hqp]; exact a, b, o, by show upd w.H p _ q = _; rw [hh q hqp]; exact ho⟩
  · have ha : a ≠ p := fun z => by
      subst z
      exact n (hz o e)
    obtain ⟨o', e1, q1⟩ := r.mem.inv.k a o e n
    exact ⟨o', by show upd w.H p _ a = _; rw [hh a ha]; exact e1, q1⟩
  · have e2 : m2[t]? = some (.i n j ds) := e2
    have e1 : w.r[t]? = some q := e1
    have ne : w.r[t]? ≠ some p := fun z => by
      have := h2 t _ e2 z
      cases this
    obtain ⟨g1, g2⟩ := r.mem.nv.1 t q n j ds e1 (h1 t _ e2 ne)
    refine ⟨g1, fun p' ks e3 e4 => ?_⟩
    have e4 : m2[n]? = some (.r ks) := e4
    have e3 : w.r[n]? = some p' := e3
    have ne2 : w.r[n]? ≠ some p := fun z => by
      have := h2 n _ e4 z
      cases this
    obtain ⟨ws', k, e5, e6⟩ := g2 p' ks e3 (h1 n _ e4 ne2)
    have hp' : p' ≠ p := fun z => ne2 (z ▸ e3)
    exact ⟨ws', k, by show upd w.H p _ p' = _; rw [hh p' hp']; exact e5, e6⟩
  · have hqp : q ≠ p := fun z => by
      subst z
      exact hF hq
    rcases r.mem.nv.2 q hq with z | ⟨o, e, z⟩
    · exact .inl z
    · exact .inr ⟨o, by show upd w.H p _ q = _; rw [hh q hqp]; exact e, z⟩
  · have q := r.slot i sl e
    cases sl with
    | u => trivial
    | d x =>
      obtain ⟨v, e1, rp⟩ := q
      exact ⟨v, e1, rp.mono sg⟩
    | c n => exact q
    | t b es =>
      obtain ⟨v, e1, z⟩ := q
      exact ⟨v, e1, z.mono sg fun _ _ h => h⟩
    | f => exact q
    | x n =>
      obtain ⟨z1, a, z2, z3, z4⟩ := q
      have ha : a ≠ p := fun z => by
        subst z
        rw [hv] at z4
        unfold ExO at z4
        cases z4
      exact ⟨z1, a, z2, z3, by show upd w.H p _ a = _; rw [hh a ha]; exact z4⟩
theorem le_lock {w w1 : Wd} {p : Addr} {o : HO} (le : Le w w1) (hg : w1.G p = none) (h : ∀ u, w.H p = some u → p ∈ w.r) : Le w ⟨upd w1.G p o, w1.r, w1.F, upd w1.H p o⟩ :=
  ⟨le.g.trans (same_upd hg), fun a u e n => by
    have ha : a ≠ p := fun z => by
      subst z
      exact n (h u e)
    obtain ⟨u', e1, q⟩ := le.k a u e n
    exact ⟨u', by show upd w1.H p o a = _; rw [upd_ne ha]; exact e1, q⟩, le.p, le.f, le.s⟩
/-- a dict just made becomes data -/
def cLk (c : CE) : CE := fun s => (c s).bind fun a s1 => match a with
  | .new (.t kvs) => .ok (.d (tD kvs)) s1
  | a => .ok a s1
theorem e_lk {e : Expr} {c : CE} (h : Ex X ec W e c) : Ex X ec W e (cLk c) := (PE_lock h).imp fun σ H Q q => by
  obtain ⟨w, s, rfl, hr, h⟩ := q
  refine ⟨w, s, rfl, hr, ?_⟩
  unfold cLk at h
  cases e0 : c s with
  | bad => rw [e0] at h; exact h
  | ex n s' => rw [e0] at h; exact h
  | ok a s1 =>
    rw [e0] at h
    intro x w1 le r1 oa fr
    cases a with
    | d y => exact .inl (h x w1 le r1 oa fr)
    | ref n => exact .inl (h x w1 le r1 oa fr)
    | t _ _ => exact .inl (h x w1 le r1 oa fr)
    | new cc =>
      cases cc with
      | t kvs =>
        obtain ⟨p, rfl, ⟨hp1, hp2⟩, hg, ws, hv, kv⟩ := oa
        have hf : w.H p = none := fr _ rfl p rfl
        refine .inr ⟨p, ws, rfl, hv, fun od => ?_⟩
        obtain ⟨r2, rp⟩ := lockW (od := od) (m2 := s1.m) r1 hp2 hg hv kv (fun o e => by rw [hr.new0 hf] at e; cases e) rfl (fun _ _ e _ => e) (fun k c _ e => absurd (List.mem_of_getElem? e) hp1)
        exact h (.ref p) _ (le_lock le hg fun u e => by rw [hf] at e; cases e) r2 rp .d
      | l _ => exact .inl (h x w1 le r1 oa fr)
      | k _ => exact .inl (h x w1 le r1 oa fr)
      | r _ => exact .inl (h x w1 le r1 oa fr)
      | i _ _ _ => exact .inl (h x w1 le r1 oa fr)
      | g _ => exact .inl (h x w1 le r1 oa fr)
      | gone => exact .inl (h x w1 le r1 oa fr)
/-! ### for k in d, d a locked dict -/
def ciKeyT (c : CE) : CI := fun s => (cv c s).bind fun a s1 => match a with
  | .d (.dict ((.list [], .none) :: es)) => .ok (es.map (·.1)) s1
  | _ => .bad
theorem rpKt_get {K : Fg} {G : Hp} : ∀ {ws : List (List L2.Key × V)} {es : List (D × D)} {i : Nat} {e : D × D}, RpKt K G ws es → es[i]? = some e → ∃ k v, ws[i]? = some (k, v) ∧ e.1 = tupK k ∧ Rp K G v e.2
  | _, _, i, e, .nil, h => by simp at h
  | _, _, 0, e, .cons r t, h => by
    cases h
    exact ⟨_, _, rfl, rfl, r⟩
  | _, _, i + 1, e, .cons r t, h => by
    obtain ⟨k, v, h1, h2⟩ := rpKt_get (i := i) t (by simpa using h)
    exact ⟨k, v, by simpa using h1, h2⟩
theorem rpKt_len {K : Fg} {G : Hp} : ∀ {ws : List (List L2.Key × V)} {es : List (D × D)}, RpKt K G ws es → ws.length = es.length
  | _, _, .nil => rfl
  | _, _, .cons _ t => congrArg (· + 1) (rpKt_len t)
theorem rp_dT {K : Fg} {G : Hp} {x : V} {es : List (D × D)} (h : Rp K G x (.dict (tagT :: es))) : ∃ p od ws, x = .ref p ∧ G p = some (.frz od (.dT ws)) ∧ RpKt K G ws es := by
  generalize hE : tagT :: es = E at h
  cases h with
  | dct a b =>
    cases b with
    | nil => cases hE
    | cons r t =>
      have hE := congrArg (fun l : List (D × D) => l.head?.map (·.1)) hE
      exact absurd (Option.some.inj hE).symm kD_tag
  | dctT a b =>
    cases hE
    exact ⟨_, _, _, rfl, a, b⟩
  | dctN a g b =>
    have hE := congrArg (fun l : List (D × D) => l.head?.map (·.1)) hE
    cases hE
  | dctF a b =>
    have hE := congrArg (fun l : List (D × D) => l.head?.map (·.1)) hE
    cases hE
theorem i_keysT {tg l : Expr} {c : CE} (h : Ex X ec W l c) : Ix X ec W tg l (ciKeyT c) := PI.imp (pi_keys h) fun σ H R h => by
  obtain ⟨w, s, rfl, hr, h⟩ := h
  refine run_cv hr h fun x w1 s1 a le1 hr1 ha hn h1 => ?_
  split at h1
  · rename_i es
    obtain ⟨p, od, ws, rfl, hp, ra⟩ := rp_dT (es := es) ha
    refine ⟨p, od, rfl, .inr ⟨ws, hr1.mem.ext _ _ hp, h1 _ w1 le1 hr1 fun w2 le2 e2 i => ⟨fun d hd => ⟨⟨e2 _ _ (le2.g _ _ hp), ?_⟩, fun x H' hy => ?_⟩, fun hl => ⟨e2 _ _ (le2.g _ _ hp), by rw [rpKt_len ra]; rw [List.length_map] at hl; exact hl⟩⟩⟩⟩
    · rw [rpKt_len ra]
      have := (List.getElem?_eq_some_iff.mp hd).1
      rw [List.length_map] at this
      exact this
    · obtain ⟨rfl, k, v, q, e3, rfl, e4⟩ := hy
      rw [List.getElem?_map] at hd
      obtain ⟨e, he, rfl⟩ := Option.map_eq_some_iff.mp hd
      obtain ⟨k', v', e5, e6, _⟩ := rpKt_get ra he
      rw [e3] at e5
      cases e5
      rw [e6]
      exact gr_tup (ds := k.map kD) e2 e4 rpAll_kD
  · exact h1.elim
end
end Vm
namespace Vm
open PySem L2 PySem.Spec PyProof.Rows
/-! ### sorted, of alike data -/
def isTupC : D → Bool
  | .tuple (_ :: _) => true
  | _ => false
def notNT : D → Bool
  | .none => false
  | .tuple _ => false
  | _ => true
def okS (ds : List D) : Bool := PyData.plainAll ds && (ds.all (fun d => ds.all fun d' => PySem.W.alike d d') && ((ds.all isTupC || ds.all notNT) && (ds.all (fun d => decide (d.depth ≤ 50)) && decide (ds.length ≤ 100000))))
def sortX (ds : List D) : List D := ds.mergeSort (PySem.W.dataLe false id)
structure OkS (ds : List D) : Prop where
  pl : PyData.plainAll ds = true
  al : PySem.W.AllAlike ds
  so : PySem.W.Sortable ds
  dp : ∀ d, d ∈ ds → d.depth ≤ 50
  ln : ds.length ≤ 100000
theorem okS_iff {ds : List D} (h : okS ds = true) : OkS ds := by
  unfold okS at h
  rw [Bool.and_eq_true, Bool.and_eq_true, Bool.and_eq_true, Bool.and_eq_true] at h
  obtain ⟨h1, h2, h3, h4, h5⟩ := h
  refine ⟨h1, fun d hd d' hd' => ?_, ?_, fun d hd => ?_, of_decide_eq_true h5⟩
  · exact List.all_eq_true.mp (List.all_eq_true.mp h2 d hd) d' hd'
  · rcases Bool.or_eq_true _ _ ▸ h3 with h | h
    · refine .inl fun d hd => ?_
      have := List.all_eq_true.mp h d hd
      unfold isTupC at this
      split at this
      · exact ⟨_, _, rfl⟩
      · cases this
    · refine .inr fun d hd => ?_
      have := List.all_eq_true.mp h d hd
      refine ⟨fun z => ?_, fun xs z => ?_⟩
      · rw [z] at this
        cases this
      · rw [z] at this
        cases this
  · exact of_decide_eq_true (List.all_eq_true.mp h4 d hd)
theorem sortX_map {β : Type} {bs : List β} {f : β → D} : (bs.mergeSort (PySem.W.dataLe false f)).map f = sortX (bs.map f) :=
  List.map_mergeSort fun _ _ _ _ => rfl
theorem rpAll_mem {K : Fg} {H : Hp} : ∀ {bs : List (V × D)}, (∀ b, b ∈ bs → Rp K H b.1 b.2) → RpAll K H (bs.map Prod.fst) (bs.map Prod.snd)
  | [], _ => .nil
  | b :: bs, h => .cons (h b (List.mem_cons_self ..)) (rpAll_mem fun c hc => h c (List.mem_cons_of_mem _ hc))
theorem rpAll_zip {K : Fg} {H : Hp} : ∀ {vs : List V} {ds : List D}, RpAll K H vs ds → (∀ b, b ∈ vs.zip ds → Rp K H b.1 b.2) ∧ (vs.zip ds).map Prod.fst = vs ∧ (vs.zip ds).map Prod.snd = ds
  | _, _, .nil => ⟨fun b h => (nomatch h), rfl, rfl⟩
  | v :: vs, d :: ds, .cons r t => by
    obtain ⟨h1, h2, h3⟩ := rpAll_zip t
    refine ⟨fun b hb => ?_, congrArg (v :: ·) h2, congrArg (d :: ·) h3⟩
    rcases List.mem_cons.mp hb with rfl | hb
    · exact r
    · exact h1 b hb
def rSortX (K : Fg) : List V → Hp → VK → Prop := fun vs H Q => ∃ (a : Addr) (bs : List (V × D)), vs = [.ref a] ∧ SqL K H a (bs.map Prod.fst) ∧ (∀ b, b ∈ bs → Rp K H b.1 b.2) ∧ okS (bs.map Prod.snd) = true ∧
  ∀ l, H l = none → Q (.ref l) (upd H l (.lst ((bs.mergeSort (PySem.W.dataLe false Prod.snd)).map Prod.fst)))
theorem eachV {bs : List (V × D)} : ∀ {us : List Value}, Vals (bs.map Prod.fst) us → PySem.W.EachIs (fun v (b : V × D) => RelV b.1 v) us bs := by
  induction bs with
  | nil => intro us h; cases h; exact .nil
  | cons b bs ih => intro us h; cases h with | cons r t => exact .cons r (ih t)
theorem eachVals {bs : List (V × D)} : ∀ {us : List Value}, PySem.W.EachIs (fun v (b : V × D) => RelV b.1 v) us bs → Vals (bs.map Prod.fst) us := by
  induction bs with
  | nil => intro us h; cases h; exact .nil
  | cons b bs ih => intro us h; cases h with | cons r t => exact .cons r (ih t)
theorem plain_mem : ∀ {ds : List D}, PyData.plainAll ds = true → ∀ d, d ∈ ds → d.plain = true
  | d :: ds, h, e, he => by
    simp only [PyData.plainAll, Bool.and_eq_true] at h
    rcases List.mem_cons.mp he with rfl | he
    · exact h.1
    · exact plain_mem h.2 e he
section
variable {X : Cx}
theorem cr_sortX (hu : X.A.units + 64 < cLine) : CallR X (.builtin "sorted") (rSortX X.K) := by
  intro pins s σ H xs us Q I r h
  obtain ⟨a, bs, rfl, hl, hb, ok, q⟩ := h
  have ok := okS_iff ok
  rw [Vals.ref1 r]
  obtain ⟨its, rv, pl, hz⟩ := I.list hl
  have er : ∀ {cs : List (V × D)} {us : List Value}, (∀ b, b ∈ cs → b ∈ bs) → Vals (cs.map Prod.fst) us → PySem.W.EachIs (fun v (b : V × D) => ∃ as, Reads s.heap v b.2 as) us cs := by
    intro cs
    induction cs with
    | nil => intro us _ h; cases h; exact .nil
    | cons b cs ih =>
      intro us hm h
      cases h with
      | cons r t =>
        have hb' := hm b (List.mem_cons_self ..)
        exact .cons (Rp.reads I _ _ _ (plain_mem ok.pl _ (List.mem_map_of_mem (f := Prod.snd) hb')) (hb b hb') r) (ih (fun c hc => hm c (List.mem_cons_of_mem _ hc)) t)
  refine PySem.W.sorted_data (bs := bs) (enc := Prod.snd) (R := fun v (b : V × D) => RelV b.1 v) (vs := its) pl.isList (eachV rv) (er (fun _ h => h) rv) ok.al ok.so (by rw [List.length_map] at hz; exact hz) (fun b hb' => ?_) fun out ho eo => ?_
  · have := ok.dp _ (List.mem_map_of_mem (f := Prod.snd) hb')
    omega
  · obtain ⟨c, hc⟩ := sortedAll_at s.heap its out.toArray
    refine ⟨.ref _, _, I.laid (t' := s.toks) (o := .lst ((bs.mergeSort (PySem.W.dataLe false Prod.snd)).map Prod.fst)) (fun _ _ => sortedAll_old) (Nat.le_succ _) ?_, rfl, q _ (I.hok.fresh (Nat.le_succ _))⟩
    refine ⟨?_, out, c, eachVals eo, hc⟩
    rw [List.length_map, List.length_mergeSort]
    rw [List.length_map] at hz
    exact hz
end
/-! ### sorted(d), list(d): the keys -/
theorem readsK {h : Heap} : ∀ {k : List L2.Key} {us : List Value}, Vals (k.map kV) us → ReadsAll h us (k.map kD) []
  | [], _, .nil => .nil
  | .inl i :: k, _, .cons r t => by
    obtain ⟨tk, rfl⟩ := r
    exact .cons (.int _ _) (readsK t)
  | .inr x :: k, _, .cons r t => by
    obtain ⟨tk, rfl⟩ := r
    exact .cons (.str _ _) (readsK t)
theorem kt_fst {H : Hp} {kvs : List (List L2.Key × V)} {ks : List (List L2.Key × Addr × Value)} (h : KT H kvs ks) : ks.map (·.1) = kvs.map (·.1) := by
  induction h with
  | nil => rfl
  | cons hy t ih =>
    rw [List.map_cons, List.map_cons, ih]
    exact congrArg (· :: _) hy.1.symm
theorem kt_mem {H : Hp} {kvs : List (List L2.Key × V)} {ks : List (List L2.Key × Addr × Value)} (h : KT H kvs ks) {x : List L2.Key × Addr × Value} (hx : x ∈ ks) : H x.2.1 = some (.tup (x.1.map kV)) := by
  induction h with
  | nil => exact nomatch hx
  | cons hy t ih =>
    rcases List.mem_cons.mp hx with rfl | hx
    · exact hy.1 ▸ hy.2.1
    · exact ih hx
theorem each_refs : ∀ {out : List Value} {L : List (List L2.Key × Addr)}, PySem.W.EachIs (fun v (b : List L2.Key × Addr) => v = Value.ref b.2) out L → out = (L.map (·.2)).map Value.ref
  | _, _, .nil => rfl
  | _, _, .cons h t => by
    rw [List.map_cons, List.map_cons, ← each_refs t]
    exact congrArg (· :: _) h
theorem pair_keys {H : Hp} : ∀ {L : List (List L2.Key × Addr)}, (∀ b, b ∈ L → H b.2 = some (.tup (b.1.map kV))) → Paired (fun b (k : List L2.Key) => H b = some (.tup (k.map kV))) (L.map (·.2)) (L.map (·.1))
  | [], _ => .nil
  | b :: L, h => .cons (h b (List.mem_cons_self ..)) (pair_keys fun c hc => h c (List.mem_cons_of_mem _ hc))
def rSortTD : List V → Hp → VK → Prop := fun vs H Q => ∃ (a : Addr) (kvs : List (List L2.Key × V)), vs = [.ref a] ∧ Rd H a (.dT kvs) ∧ okS (kvs.map fun p => tupK p.1) = true ∧
  ∀ p bs, H p = none → Paired (fun b k => H b = some (.tup (k.map kV))) bs ((kvs.map (·.1)).mergeSort (PySem.W.dataLe false tupK)) → Q (.ref p) (upd H p (.lst (bs.map V.ref)))
section
variable {X : Cx}
theorem cr_sortTD (hcalm : X.calm = true) (hu : X.A.units + 64 < cLine) : CallR X (.builtin "sorted") rSortTD := by
  intro pins s σ H xs us Q I r h
  obtain ⟨a, kvs, rfl, hd, ok, q⟩ := h
  have ok := okS_iff ok
  rw [Vals.ref1 r]
  obtain ⟨z, hs, ks, pr, o, es, ep, ho, hx, hdt, he, hn⟩ := (show ObjOk X.prog X.w H s.heap a (.dT kvs) from hd.ok I.hok)
  have l1 : es.size = ks.length := size_of_entries he
  have l2 : kvs.length = ks.length := Paired.length pr
  refine Calls.call_function_entry PyProof.Rows.kind_sorted PyProof.Rows.plain_sorted PyProof.Rows.entry_sorted (PyProof.Rows.args_sorted1 _) ?_
  unfold Builtin.«sorted»
  refine wpAny_bind (m := checkCount "sorted" 1 1 _) (wpAny_pure ?_)
  refine wpAny_bind (PySem.W.kdu_collect (A := X.A.in1) (kdl_raw hs hx hdt) (I.ok.hd hcalm) ho (by omega) fun h' tk acc hk hacc => ?_)
  let bs : List (List L2.Key × Addr) := ks.map fun x => (x.1, x.2.1)
  have ea : acc.toList = bs.map fun b => Value.ref b.2 := by
    have hl : acc.toList.length = ks.length := by rw [Array.length_toList, hacc.1]; exact l1
    apply List.ext_getElem?
    intro j
    show _ = ((ks.map fun x => (x.1, x.2.1)).map fun b => Value.ref b.2)[j]?
    rw [List.map_map, List.getElem?_map]
    cases hj : acc.toList[j]? with
    | none =>
      have h1 := List.getElem?_eq_none_iff.mp hj
      rw [List.getElem?_eq_none (by omega)]
      all_goals rfl
    | some v =>
      obtain ⟨en, hen, hv⟩ := hacc.2 j v (by rw [← Array.getElem?_toList]; exact hj)
      have qe := entry_at he j
      rw [hen] at qe
      cases hb : ks[j]? with
      | none =>
        rw [hb] at qe
        exact nomatch (show some en = none from qe)
      | some b =>
        rw [hb] at qe
        have e2 : en = entryOfKey (tupleKind (mixKind X.prog X.w)) b := Option.some.inj qe
        rw [hv, e2]
        all_goals rfl
  have hB : ∀ b, b ∈ bs → H b.2 = some (.tup (b.1.map kV)) := fun b hb => by
    obtain ⟨x, hx, rfl⟩ := List.mem_map.mp hb
    exact kt_mem pr hx
  have hfst : bs.map (·.1) = kvs.map (·.1) := by
    show (ks.map fun x => (x.1, x.2.1)).map (·.1) = _
    rw [List.map_map]
    exact kt_fst pr
  have hds : bs.map (fun b => tupK b.1) = kvs.map fun p => tupK p.1 := by
    rw [show (fun b : List L2.Key × Addr => tupK b.1) = tupK ∘ (fun b : List L2.Key × Addr => b.1) from rfl, ← List.map_map, hfst, List.map_map]
    rfl
  have lb : bs.length = ks.length := List.length_map ..
  have I1 : Inv X pins σ H { s with heap := h', toks := tk } := I.kept hk
  refine wpAny_bind (wpAny_newList ?_ (by rw [ea, List.length_map, lb]; omega))
  have hoL : (h'.push (seqObj "list" acc.toList.toArray 0)).get? h'.objs.size = some (seqObj "list" acc.toList.toArray 0) := Heap.get?_push_size _ rfl
  show wpAny _ _ _ _ _ { s with heap := h'.push (seqObj "list" acc.toList.toArray 0), toks := tk }
  have rk : ∀ b, b ∈ bs → Reads (h'.push (seqObj "list" acc.toList.toArray 0)) (.ref b.2) (tupK b.1) [] := fun b hb => by
    obtain ⟨its, rv, ⟨o1, ho1, hc1, n1, hd1⟩, _⟩ := I1.tuple (SqT.of (K := X.K) (hB b hb))
    exact .tuple (Heap.get?_push_of_some _ ho1) hc1 hd1 (readsK rv)
  have each : ∀ {R : Value → (List L2.Key × Addr) → Prop} {cs : List (List L2.Key × Addr)}, (∀ b, b ∈ cs → R (.ref b.2) b) → PySem.W.EachIs R (cs.map fun b => Value.ref b.2) cs := by
    intro R cs
    induction cs with
    | nil => intro _; exact .nil
    | cons b cs ih => intro h; exact .cons (h b (List.mem_cons_self ..)) (ih fun c hc => h c (List.mem_cons_of_mem _ hc))
  refine wpAny_bind (wpAny_holding (PySem.W.list_sort_data (bs := bs) (enc := fun b => tupK b.1) (R := fun v (b : List L2.Key × Addr) => v = Value.ref b.2) (vs := acc.toList) hoL (by rw [ea]; exact each fun _ _ => rfl) (by
      have q := each (R := fun v (b : List L2.Key × Addr) => ∃ as, Reads (h'.push (seqObj "list" acc.toList.toArray 0)) v (tupK b.1) as ∧ h'.objs.size ∉ as) fun b hb => ⟨[], rk b hb, by simp⟩
      rw [← ea] at q
      exact q)
    (by rw [hds]; exact ok.al) (by rw [hds]; exact ok.so) (by rw [lb]; omega) (fun b hb => ?_) fun out lo eo => ?_))
  · have : tupK b.1 ∈ bs.map (fun b => tupK b.1) := List.mem_map_of_mem (f := fun b : List L2.Key × Addr => tupK b.1) hb
    rw [hds] at this
    have := ok.dp _ this
    show X.A.in1.units + 1 + _ < _
    have e : X.A.in1.units = X.A.units + 1 := rfl
    omega
  · obtain ⟨e', he'⟩ := PyProof.Rows.sortedHeap_at (vs := acc.toList) (out := out.toArray) hoL
    let L := bs.mergeSort (PySem.W.dataLe false fun b => tupK b.1)
    have hL : L.Perm bs := List.mergeSort_perm _ _
    have eo : PySem.W.EachIs (fun v (b : List L2.Key × Addr) => v = Value.ref b.2) out L := eo
    have ov : out = (L.map (·.2)).map Value.ref := each_refs eo
    have hn2 : H h'.objs.size = none := I1.hok.fresh (Nat.le_refl _)
    refine wpAny_pure ⟨_, rfl, .ref h'.objs.size, upd H h'.objs.size (.lst ((L.map (·.2)).map V.ref)), I1.laid (t' := tk) (fun b u e => ?_) (Nat.le_refl _)
      (show ObjOk X.prog X.w _ _ _ (.lst ((L.map (·.2)).map V.ref)) from ⟨?_, out, e', by rw [ov]; exact vals_refs _, he'⟩), rfl, q _ (L.map (·.2)) hn2 ?_⟩
    · have hb : b < h'.objs.size := Heap.lt_size e
      rw [PyProof.Rows.sortedHeap_old (Nat.ne_of_lt hb) (by rw [size_push']; exact Nat.lt_succ_of_lt hb)]
      exact Heap.get?_push_of_some _ e
    · rw [List.length_map, List.length_map, hL.length_eq, lb]
      omega
    · have e1 : (kvs.map (·.1)).mergeSort (PySem.W.dataLe false tupK) = L.map (·.1) := by
        rw [← hfst]
        exact (List.map_mergeSort (f := fun b : List L2.Key × Addr => b.1) fun _ _ _ _ => rfl).symm
      rw [e1]
      exact pair_keys fun b hb => hB b (hL.mem_iff.mp hb)
end
end Vm
namespace Vm
open PySem L2 PySem.Spec PyProof.Rows
def opSortedX : Od → Option Rv
  | .d (.list ds) => if okS ds = true then some (.new (.l (sortX ds))) else none
  | .d (.dict ((.list [], .none) :: es)) => if okS (es.map (·.1)) = true then some (.new (.l (sortX (es.map (·.1))))) else none
  | _ => none
theorem rpKt_fst {K : Fg} {G : Hp} : ∀ {ws : List (List L2.Key × V)} {es : List (D × D)}, RpKt K G ws es → (ws.map fun p => tupK p.1) = es.map (·.1)
  | _, _, .nil => rfl
  | _, _, .cons _ t => congrArg (_ :: ·) (rpKt_fst t)
theorem post_keys {K : Fg} {w : Wd} {Q : VK} {l : Addr} {bs : List Addr} {ks : List (List L2.Key)} {ds : List D} (hx : Same w.G w.H) (q : Post K w (.new (.l ds)) Q) (hl : w.H l = none) (hb : Paired (fun b (k : List L2.Key) => w.H b = some (.tup (k.map kV))) bs ks) (e : ks.map tupK = ds) : Q (.ref l) (upd w.H l (.lst (bs.map V.ref))) := by
  obtain ⟨w2, g, eh, rk⟩ := gr_tups (K := K) hx hb
  have hl2 : w2.H l = none := by rw [eh]; exact hl
  have := q (.ref l) ⟨w2.G, w2.r, w2.F, upd w2.H l (.lst (bs.map V.ref))⟩ (g.trans (gr_new hl2)) ⟨l, rfl, hl, (g.e hx).free hl2, _, upd_same, by rw [← e]; exact rk⟩
  rw [eh] at this
  exact this
theorem s_sortX {K : Fg} : Op1S K (fun v H Q => rSortX K [v] H Q ∨ rSortTD [v] H Q) opSortedX := by
  intro w x o rv Q hx h e q
  unfold opSortedX at e
  split at e
  · rename_i ds
    split at e
    · rename_i ok
      cases e
      obtain ⟨p, vs, rfl, hs, ra⟩ := h.list hx
      obtain ⟨h1, h2, h3⟩ := rpAll_zip ra
      refine .inl ⟨p, vs.zip ds, rfl, by rw [h2]; exact hs, fun b hb => (h1 b hb).mono hx, by rw [h3]; exact ok, fun l hl => ?_⟩
      refine post_lst q ?_ hl hx
      have e3 : ((vs.zip ds).mergeSort (PySem.W.dataLe false Prod.snd)).map Prod.snd = sortX ds := by rw [sortX_map, h3]
      rw [← e3]
      exact rpAll_mem fun b hb => h1 b ((List.mergeSort_perm _ _).mem_iff.mp hb)
    · cases e
  · rename_i es
    split at e
    · rename_i ok
      cases e
      obtain ⟨p, od, ws, rfl, hp, ra⟩ := h.dictT (es := es)
      have ef := rpKt_fst ra
      refine .inr ⟨p, ws, rfl, .inr ⟨od, hx _ _ hp⟩, by rw [ef]; exact ok, fun l bs hl hb => post_keys hx q hl hb ?_⟩
      rw [sortX_map, ← ef, List.map_map]
      rfl
    · cases e
  · cases e
/-! ### d.values() -/
def valsO (p d : Addr) : HO := .ext fun h => h.IsValuesView p d
theorem valsO_ok {P : Program} {w : World} {H : Hp} {h : Heap} {p d : Addr} (e : h.get? p = some { cls := .type "dict_values", data := .fields #[.ref d] }) : ObjOk P w H h p (valsO p d) :=
  ⟨⟨_, e, rfl, rfl⟩, ⟨_, e⟩, fun h1 h2 x k => let ⟨o, ho, r⟩ := x; ⟨o, k o ho, r⟩⟩
def tValsT (to : TE) : TE := fun σ H Q => to σ H fun x H1 => ∃ (a : Addr) (kvs : List (List L2.Key × V)), x = .ref a ∧ Rd H1 a (.dT kvs) ∧ ∀ p, H1 p = none → Q (.ref p) (upd H1 p (valsO p a))
section
variable {X : Cx} {o : Expr} {to : TE} {apos cpos : Pos}
theorem pe_valuesT (ho : PE X o to) (hbase : attributeBase o "values" X.env (eval o X.env) = eval o X.env := by rfl) (hline : (apos.endLine == cpos.line) = true := by rfl) : PE X (.Call (.Attribute o "values" apos) [] [] cpos) (tValsT to) := by
  refine ⟨fun pins s σ H Q I h => ?_⟩
  refine wpAny_Call_method0_late hbase hline (thn (ho.run pins s σ H _ I h) fun v s1 ⟨x, H1, I1, r1, a, kvs, ex, ha, q1⟩ => ?_)
  subst ex
  cases r1
  obtain ⟨h1, h2, h3⟩ := isD_at I1 (.inr ⟨kvs, ha⟩)
  refine ⟨"dict", "dict.values", F.plainAttrs_dict, F.slot_dict_values, F.type_dict_values, h1, h2, Calls.callWith_builtin rfl (PySem.evalArgs_none ?_)⟩
  obtain ⟨z, hs, ks, pr, o, es, ep, hob, hx, hdt, he, hn⟩ := (show ObjOk X.prog X.w H1 s1.heap a (.dT kvs) from ha.ok I1.hok)
  refine call_meetsIn F.slot_dict_values h1 F.entry_dict_values (F.args_dict_values_1 _) (meets_dict_values_raw a h3) ⟨⟨es, ep, o, hob, hx, hdt⟩, ?_⟩
  have hf : H1 s1.heap.objs.size = none := I1.hok.fresh (Nat.le_refl _)
  exact ⟨.ref s1.heap.objs.size, upd H1 s1.heap.objs.size (valsO s1.heap.objs.size a), I1.laid (t' := s1.toks) (fun b u e => Heap.get?_push_of_some _ e) (Nat.le_refl _) (valsO_ok (Heap.get?_push_size _ rfl)), rfl, q1 _ hf⟩
end
section
variable {prog : Program} {w : World} {A : Around} {E : Value → Shared → Prop} {s : Shared} {T : String} {r d : Addr} {n : Nat} {P : Nat → Value → Prop} {OK : Heap → Prop} {Q : Value → Shared → Prop}
theorem sum_src (K : PySem.W.KdlSrc prog w T r d n P OK) (hh : A.handled = none) (hok : OK s.heap) (val : Nat → Int) (hval : ∀ (i : Nat) (v : Value), P i v → ∃ t : Tok, v = Value.int (val i) t)
    (h : ∀ (h' : Heap) (tk : Nat) (t' : Tok), (∀ b o, s.heap.get? b = some o → h'.get? b = some o) → Q (.int (preSum val n) t') { s with heap := h', toks := tk }) :
    wpAny (model prog w) A (call (.builtin "sum") [.ref r]) Q E s := by
  refine call_sum_walkAnyS ?_
  obtain ⟨oI, St, hit, W, st⟩ := K.iter A.in1 s hh hok
  refine hit _ _ ⟨s.heap.objs.size, _, _, _, n, P, _, val, rfl, W.toS, st, fun b hb => ?_, hval, fun s' t' hm => ?_⟩
  · show b < (s.heap.push oI).objs.size
    rw [size_push']
    rcases List.mem_cons.mp hb with e | hb
    · rw [e]; exact Nat.lt_succ_self _
    · rw [List.mem_singleton.mp hb]; exact Nat.lt_succ_of_lt (K.there _ hok).2
  · have hk : ∀ b o, s.heap.get? b = some o → s'.heap.get? b = some o := fun b o e =>
      hm.heap b o (fun hI => absurd (Heap.lt_size e) (by rw [List.mem_singleton.mp hI]; exact Nat.lt_irrefl _)) (Heap.get?_push_of_some _ e)
    rw [Moved.eq_with hm]
    exact h s'.heap s'.toks t' hk
theorem preSum_take (ns : List Int) : ∀ k, k ≤ ns.length → preSum (fun i => ns.getD i 0) k = (ns.take k).sum
  | 0, _ => rfl
  | k + 1, h => by
    show preSum _ k + ns.getD k 0 = _
    rw [preSum_take ns k (by omega), List.take_succ, List.sum_append, List.getD_eq_getElem?_getD, List.getElem?_eq_getElem (by omega)]
    simp
theorem preSum_all (ns : List Int) : preSum (fun i => ns.getD i 0) ns.length = ns.sum := by
  rw [preSum_take ns _ (Nat.le_refl _), List.take_length]
end
theorem kt_vals {H : Hp} {kvs : List (List L2.Key × V)} {ks : List (List L2.Key × Addr × Value)} (h : KT H kvs ks) : Vals (kvs.map (·.2)) (ks.map (·.2.2)) := by
  induction h with
  | nil => exact .nil
  | cons hy t ih => exact .cons hy.2.2 ih
section
variable {X : Cx}
def rSumVals : List V → Hp → VK → Prop := fun xs H Q => ∃ (p a : Addr) (kvs : List (List L2.Key × V)) (ns : List Int), xs = [.ref p] ∧ H p = some (valsO p a) ∧ Rd H a (.dT kvs) ∧ kvs.map (·.2) = ns.map V.int ∧ Q (.int ns.sum) H
theorem val_at {P : Program} {w : World} {H : Hp} {es : Array DictEntry} {ks : List (List L2.Key × Addr × Value)} (he : es.toList = ks.map (entryOfKey (tupleKind (mixKind P w)))) {i : Nat} (hi : i < es.size) : (ks.map (·.2.2))[i]? = some es[i].val := by
  have qe := entry_at he i
  rw [Array.getElem?_eq_getElem hi] at qe
  rw [List.getElem?_map]
  cases hb : ks[i]? with
  | none =>
    rw [hb] at qe
    exact nomatch (show some _ = none from qe)
  | some b =>
    rw [hb] at qe
    rw [Option.some.inj qe]
    rfl
theorem cr_sumVals (hcalm : X.calm = true) : CallR X (.builtin "sum") rSumVals := by
  intro pins s σ H xs us Q I r h
  obtain ⟨p, a, kvs, ns, rfl, hp, hd, hn, q⟩ := h
  rw [Vals.ref1 r]
  have hv : s.heap.IsValuesView p a := (I.hok p _ hp).1
  obtain ⟨z, hs, ks, pr, o, es, ep, ho, hx, hdt, he, _⟩ := (show ObjOk X.prog X.w H s.heap a (.dT kvs) from hd.ok I.hok)
  have l1 : es.size = ks.length := size_of_entries he
  have l2 : kvs.length = ks.length := Paired.length pr
  have l3 : ns.length = kvs.length := by
    have := congrArg List.length hn
    rw [List.length_map, List.length_map] at this
    exact this.symm
  have rv := kt_vals pr
  rw [hn] at rv
  refine sum_src (KdlSrc.rawValues (es := es) (ep := ep)) (I.ok.hd hcalm) ⟨hv, o, ho, hx, hdt⟩ (fun i => ns.getD i 0) (fun i v hi => ?_) fun h' tk t' hk => ?_
  · obtain ⟨hi, rfl⟩ := hi
    have e1 : (ns.map V.int)[i]? = some (.int (ns.getD i 0)) := by
      rw [List.getElem?_map, List.getD_eq_getElem?_getD, List.getElem?_eq_getElem (show i < ns.length by omega)]
      rfl
    obtain ⟨u, e2, ru⟩ := rv.get e1
    rw [val_at (H := H) he hi] at e2
    cases e2
    exact ru
  · rw [l1, ← l2, ← l3, preSum_all]
    exact ⟨.int ns.sum, H, I.kept hk, ⟨_, rfl⟩, q⟩
end
/-! sum(d.values()), list(d.values()) -/
def opSumV : Od → Option Rv
  | .d (.dict ((.list [], .none) :: es)) => (ints? (es.map (·.2))).map fun ns => .d (.int ns.sum)
  | _ => none
theorem rpKt_snd {K : Fg} {G : Hp} : ∀ {ws : List (List L2.Key × V)} {es : List (D × D)}, RpKt K G ws es → RpAll K G (ws.map (·.2)) (es.map (·.2))
  | _, _, .nil => .nil
  | _, _, .cons r t => .cons r (rpKt_snd t)
def viaV (r : List V → Hp → VK → Prop) : V → Hp → VK → Prop := fun x H Q => ∃ (a : Addr) (kvs : List (List L2.Key × V)), x = .ref a ∧ Rd H a (.dT kvs) ∧ ∀ p, H p = none → r [.ref p] (upd H p (valsO p a)) Q
theorem rd_upd {H : Hp} {a p : Addr} {o u : HO} (h : Rd H a u) (hp : H p = none) : Rd (upd H p o) a u := by
  rcases h with h | ⟨q, h⟩
  · exact .inl (by rw [upd_ne (ne_of_none h hp)]; exact h)
  · exact .inr ⟨q, by rw [upd_ne (ne_of_none h hp)]; exact h⟩
theorem s_sumV {K : Fg} : Op1S K (viaV rSumVals) opSumV := by
  intro w x o rv Q hx h e q
  unfold opSumV at e
  split at e
  · rename_i es
    obtain ⟨ns, e1, e2⟩ := Option.map_eq_some_iff.mp e
    cases e2
    obtain ⟨p, od, ws, rfl, hp, ra⟩ := h.dictT (es := es)
    have hr : Rd w.H p (.dT ws) := .inr ⟨od, hx _ _ hp⟩
    refine ⟨p, ws, rfl, hr, fun l hl => ⟨l, p, ws, ns, rfl, upd_same, rd_upd hr hl, ?_, ?_⟩⟩
    · have := rpKt_snd ra
      rw [ints?_eq e1] at this
      exact rp_ints this
    · exact q (.int ns.sum) ⟨w.G, w.r, w.F, upd w.H l (valsO l p)⟩ (gr_new hl) (.int _)
  · cases e
section
variable {X : Cx} {ec : EC} {W : WX}
theorem e_sumV {o : Expr} {co : CE} {p ap cp pos : Pos} (hm : X.mg "sum" = none) (ho : Ex X ec W o co) (hc : X.calm = true := by rfl) (hg : Gl X "sum" := by rfl)
    (hbase : attributeBase o "values" X.env (eval o X.env) = eval o X.env := by rfl) (hline : (ap.endLine == cp.line) = true := by rfl)
    (h1 : starEach [.Call (.Attribute o "values" ap) [] [] cp] X.env = (false, eval (.Call (.Attribute o "values" ap) [] [] cp) X.env) :: starEach [] X.env := by rfl) (h2 : (backTo pos (starEach [] X.env)).any (·.1) = false := by rfl) :
    Ex X ec W (.Call (.Name "sum" p) [.Call (.Attribute o "values" ap) [] [] cp] [] pos) (cOp1 opSumV co) :=
  (pe_callB (cr_sumVals hc) hg hm (by decide +kernel) (pa_cons (pe_valuesT ho hbase hline) pa_nil h1) (by decide) (by decide) h1 h2).imp fun _ _ _ h => op1 s_sumV h
theorem e_sortedX {a : Expr} {ca : CE} {p pos : Pos} (hu : X.A.units + 64 < cLine) (hm : X.mg "sorted" = none) (ha : Ex X ec W a ca) (hc : X.calm = true := by rfl) (hg : Gl X "sorted" := by rfl) (h1 : starEach [a] X.env = (false, eval a X.env) :: starEach [] X.env := by rfl) (h2 : (backTo pos (starEach [] X.env)).any (·.1) = false := by rfl) :
    Ex X ec W (.Call (.Name "sorted" p) [a] [] pos) (cOp1 opSortedX ca) :=
  e_call1 (r := fun vs H Q => rSortX X.K vs H Q ∨ rSortTD vs H Q) (fun pins s σ H xs us Q I r h => h.elim (cr_sortX hu pins s σ H xs us Q I r) (cr_sortTD hc hu pins s σ H xs us Q I r)) s_sortX hm (by decide +kernel) ha hg (by decide) (by decide) h1 h2
end
end Vm
namespace Vm
open PySem L2 PySem.Spec PyProof.Rows
section
variable {ec : EC}
theorem cell_inN {K : Fg} {w w1 : Wd} {σ : L2.St} {s : S} {p : Addr} {c : Cell} (hg : c ≠ .gone) (hnv : NV ec ⟨w1.G, w1.r ++ [p], w1.F, w1.H⟩ (s.m ++ [c])) (i0 : Le ec.w (w.f ec.w.F)) (le : Le w w1) (r : Rel ec K w1 σ s) (hp : p ∉ w1.r ∧ ¬ w1.F p) (hf : w.H p = none) (hc : COk K w1.G w1.H p c) :
    Rel ec K ⟨w1.G, w1.r ++ [p], w1.F, w1.H⟩ σ ⟨s.v, s.m ++ [c]⟩ ∧ Le w ⟨w1.G, w1.r ++ [p], w1.F, w1.H⟩ := by
  have l2 : Le w ⟨w1.G, w1.r ++ [p], w1.F, w1.H⟩ := ⟨le.g, le.k, le.p.trans (List.prefix_append _ _), fun q hq => by
    have hq : q ∈ w1.r ++ [p] := hq
    rcases List.mem_append.mp hq with m | m
    · exact le.f q m
    · rw [List.mem_singleton.mp m]
      exact .inr hf, le.s⟩
  refine ⟨⟨⟨r.mem.ext, ?_, ?_, fun n q c' h1 h2 => ?_, fun q hq => ?_, r.mem.tab, i0.trans (l2.ch _), r.mem.gt, hnv⟩, r.len, fun i sl e => ?_⟩, l2⟩
  · show (w1.r ++ [p]).length = (s.m ++ [c]).length
    rw [List.length_append, List.length_append, r.mem.len]
    rfl
  · show (w1.r ++ [p]).Nodup
    refine List.nodup_append.mpr ⟨r.mem.nd, by simp, fun a ha b hb e => ?_⟩
    rw [List.mem_singleton.mp hb] at e
    exact hp.1 (e ▸ ha)
  · have h1 : (w1.r ++ [p])[n]? = some q := h1
    have h2 : (s.m ++ [c])[n]? = some c' := h2
    by_cases hn : n < w1.r.length
    · rw [List.getElem?_append_left hn] at h1
      rw [List.getElem?_append_left (by rw [← r.mem.len]; exact hn)] at h2
      exact r.mem.cell n q c' h1 h2
    · rw [List.getElem?_append_right (by omega)] at h1
      rw [List.getElem?_append_right (by rw [← r.mem.len]; omega)] at h2
      rw [r.mem.len] at h1
      cases hk : n - s.m.length with
      | zero =>
        rw [hk] at h1 h2
        cases h1
        cases h2
        exact hc
      | succ k =>
        rw [hk] at h1
        cases h1
  · obtain ⟨a, b, c'⟩ := r.mem.fo q hq
    refine ⟨a, fun m => ?_, c'⟩
    have m : q ∈ w1.r ++ [p] := m
    rcases List.mem_append.mp m with m | m
    · exact b m
    · rw [List.mem_singleton.mp m] at hq
      exact hp.2 hq
  · have q := r.slot i sl e
    cases sl with
    | u => trivial
    | d x => exact q
    | c n =>
      obtain ⟨p', e1, e2⟩ := q
      refine ⟨p', e1, ?_⟩
      show (w1.r ++ [p])[n]? = some p'
      rw [List.getElem?_append_left (List.getElem?_eq_some_iff.mp e2).1]
      exact e2
    | f => exact q
    | t b es =>
      obtain ⟨v, e1, z⟩ := q
      refine ⟨v, e1, z.mono (Same.refl _) fun k p' h => ?_⟩
      show (w1.r ++ [p])[k]? = some p'
      rw [List.getElem?_append_left (List.getElem?_eq_some_iff.mp h).1]
      exact h
    | x n =>
      obtain ⟨z1, a, z2, z3, z4⟩ := q
      refine ⟨z1, a, z2, fun m => ?_, z4⟩
      have m : a ∈ w1.r ++ [p] := m
      rcases List.mem_append.mp m with m | m
      · exact z3 m
      · have ea := List.mem_singleton.mp m
        subst ea
        unfold ExO at z4
        cases c with
        | gone => exact hg rfl
        | l ds =>
          obtain ⟨_, _, hv, _⟩ := hc
          rw [z4] at hv
          cases hv
        | k ds =>
          obtain ⟨_, _, hv, _⟩ := hc
          rw [z4] at hv
          cases hv
        | t ds =>
          obtain ⟨_, _, hv, _⟩ := hc
          rw [z4] at hv
          cases hv
        | r ds =>
          obtain ⟨_, _, hv, _⟩ := hc
          rw [z4] at hv
          cases hv
        | i n' j' ds =>
          obtain ⟨_, _, hv, _⟩ := hc
          rw [z4] at hv
          cases hv
        | g x =>
          obtain ⟨_, o1, hv, q1⟩ := hc
          rw [z4] at hv
          exact q1.noX.2 _ _ (Option.some.inj hv).symm
theorem cell_setN {K : Fg} {w : Wd} {σ : L2.St} {s : S} {n : Nat} {p : Addr} {o : HO} {c : Cell} (r : Rel ec K w σ s) (hn : w.r[n]? = some p) (hg : w.G p = none) (hc : COk K w.G (upd w.H p o) p c) (hnv : NV ec ⟨w.G, w.r, w.F, upd w.H p o⟩ (s.m.set n c)) :
    Rel ec K ⟨w.G, w.r, w.F, upd w.H p o⟩ σ ⟨s.v, s.m.set n c⟩ ∧ Le w ⟨w.G, w.r, w.F, upd w.H p o⟩ := by
  have le : Le w ⟨w.G, w.r, w.F, upd w.H p o⟩ := ⟨Same.refl _, fun a u e na => ⟨u, by
    show upd w.H p o a = some u
    have hne : a ≠ p := by
      intro z
      subst z
      exact na (List.mem_of_getElem? hn)
    rw [upd_ne hne]
    exact e, fun _ => rfl⟩, List.prefix_refl _, fun _ h => .inl h, rfl⟩
  refine ⟨⟨⟨fun b u e => ?_, by show w.r.length = (s.m.set n c).length; rw [List.length_set]; exact r.mem.len, r.mem.nd, fun k q c' h1 h2 => ?_, fun q hq => ?_, (let ⟨_, a, b, c⟩ := r.liveN hn hg; r.mem.tab.put a b c.1), r.mem.inv.trans (le.ch _), r.mem.gt, hnv⟩, r.len, fun i sl e => slOk_mono le (r.slot i sl e)⟩, le⟩
  · show upd w.H p o b = some u
    have hb : b ≠ p := by
      intro z
      subst z
      have e : w.G b = some u := e
      rw [hg] at e
      cases e
    rw [upd_ne hb]
    exact r.mem.ext b u e
  · have h2 : (s.m.set n c)[k]? = some c' := h2
    by_cases hk : n = k
    · subst hk
      have hl : n < s.m.length := by rw [← r.mem.len]; exact (List.getElem?_eq_some_iff.mp hn).1
      rw [List.getElem?_set_self hl] at h2
      cases h2
      have h1 : w.r[n]? = some q := h1
      rw [hn] at h1
      cases h1
      exact hc
    · rw [List.getElem?_set_ne hk] at h2
      have hq : q ≠ p := fun z => hk (nd_ix r.mem.nd hn (z ▸ h1))
      have c0 := r.mem.cell k q c' h1 h2
      refine cOk_mono (Same.refl _) (fun hc => ?_) (fun u _ e => ?_) c0
      · show w.G q = none
        cases c' with
        | l ds => exact c0.1
        | k kvs => exact c0.1
        | t kvs => exact c0.1
        | r ks => exact c0.1
        | i n j ds => exact c0.1
        | g x => exact c0.1
        | gone => exact absurd rfl hc
      · show upd w.H p o q = some u
        rw [upd_ne hq]
        exact e
  · obtain ⟨a, b, u, hu⟩ := r.mem.fo q hq
    refine ⟨a, b, u, ?_⟩
    show upd w.H p o q = some u
    have hne : q ≠ p := by
      intro z
      subst z
      exact b (List.mem_of_getElem? hn)
    rw [upd_ne hne]
    exact hu
theorem cell_outN {K : Fg} {w : Wd} {σ : L2.St} {s : S} {n : Nat} {p : Addr} {o : HO} {d : D} (r : Rel ec K w σ s) (hn : w.r[n]? = some p) (hg : w.G p = none) (ho : w.H p = some o) (nb : NoTb o) (hd : ∀ G', Same w.G G' → G' p = some o → Rp K G' (.ref p) d) :
    Rel ec K ⟨upd w.G p o, w.r, w.F, w.H⟩ σ ⟨s.v, s.m.set n .gone⟩ ∧ Le w ⟨upd w.G p o, w.r, w.F, w.H⟩ ∧ Rp K (upd w.G p o) (.ref p) d := by
  have sg : Same w.G (upd w.G p o) := same_upd hg
  have le : Le w ⟨upd w.G p o, w.r, w.F, w.H⟩ := ⟨sg, fun _ _ e _ => ⟨_, e, fun _ => rfl⟩, List.prefix_refl _, fun _ h => .inl h, rfl⟩
  have rp := hd _ sg upd_same
  refine ⟨⟨⟨fun b u e => ?_, by show w.r.length = (s.m.set n .gone).length; rw [List.length_set]; exact r.mem.len, r.mem.nd, fun k q c h1 h2 => ?_, fun q hq => ?_, r.mem.tab, r.mem.inv.trans (le.ch _), noTG_upd r.mem.gt nb, nv_out r.mem.nv⟩, r.len, fun j sl e => ?_⟩, le, rp⟩
  · have e : upd w.G p o b = some u := e
    by_cases hb : b = p
    · subst hb
      rw [upd_same] at e
      cases e
      exact ho
    · rw [upd_ne hb] at e
      exact r.mem.ext b u e
  · have h2 : (s.m.set n .gone)[k]? = some c := h2
    by_cases hk : n = k
    · subst hk
      have hl : n < s.m.length := by rw [← r.mem.len]; exact (List.getElem?_eq_some_iff.mp hn).1
      rw [List.getElem?_set_self hl] at h2
      cases h2
      have h1 : w.r[n]? = some q := h1
      rw [hn] at h1
      cases h1
      exact ⟨o, upd_same⟩
    · rw [List.getElem?_set_ne hk] at h2
      have hq : q ≠ p := fun z => hk (nd_ix r.mem.nd hn (z ▸ h1))
      refine cOk_mono sg (fun hc => ?_) (fun _ _ e => e) (r.mem.cell k q c h1 h2)
      show upd w.G p o q = none
      rw [upd_ne hq]
      have c0 := r.mem.cell k q c h1 h2
      cases c with
      | l ds => exact c0.1
      | k kvs => exact c0.1
      | t kvs => exact c0.1
      | r ks => exact c0.1
      | i n j ds => exact c0.1
      | g x => exact c0.1
      | gone => exact absurd rfl hc
  · obtain ⟨a, b, c⟩ := r.mem.fo q hq
    refine ⟨?_, b, c⟩
    show upd w.G p o q = none
    have hne : q ≠ p := by
      intro z
      subst z
      exact b (List.mem_of_getElem? hn)
    rw [upd_ne hne]
    exact a
  · exact slOk_mono le (r.slot j sl e)
end
/-! ### d.setdefault(k, []).append(v), d a dict of lists -/
def ixK : List (List L2.Key) → List L2.Key → Option Nat
  | [], _ => none
  | x :: xs, k => if x = k then some 0 else (ixK xs k).map (· + 1)
def cSetd (co ck : CE) : CE := fun s => (cv co s).bind fun o s1 => match o with
  | .ref n => match s1.m[n]? with
    | some (.r _) => (cv ck s1).bind fun y s2 => match y with
      | .d (.tuple ds) => match s2.m[n]? with
        | some (.r ks) => match keysOf ds with
          | some k => if ks.length < 16000000 then match ixK ks k with
            | some j => match s2.m[n + 1 + j]? with
              | some (.i n' j' _) => if n' = n ∧ j' = j then .ok (.ref (n + 1 + j)) s2 else .bad
              | _ => .bad
            | none => .ok (.ref s2.m.length) ⟨s2.v, s2.m.set n (.r (ks ++ [k])) ++ [.i n ks.length []]⟩
            else .bad
          | none => .bad
        | _ => .bad
      | _ => .bad
    | _ => .bad
  | _ => .bad
def tDSetdT (td ty tx : TE) : TE := fun σ H Q => td σ H fun x H1 => ∃ a, x = .ref a ∧ IsD H1 a ∧ ty σ H1 fun y H2 => tx σ H2 fun z H3 => ∃ (kvs : List (List L2.Key × V)) (k : List L2.Key) (b : Addr), H3 a = some (.dT kvs) ∧ y = .ref b ∧ H3 b = some (.tup (k.map kV)) ∧ kvs.length < sizeLine ∧
  (∀ v, valV kvs k = some v → Q v H3) ∧ (valV kvs k = none → Q z (upd H3 a (.dT (L2.putK kvs k z))))
section
variable {X : Cx} {o e f : Expr} {td ty tx : TE} {apos cpos : Pos}
theorem pe_dsetdT (hu : X.A.units + 1 < cLine) (ho : PE X o td) (he : PE X e ty) (hf : PE X f tx) (m : M2 X o "setdefault" apos e f cpos) : PE X (.Call (.Attribute o "setdefault" apos) [e, f] [] cpos) (tDSetdT td ty tx) := by
  refine ⟨fun pins s σ H Q I h => ?_⟩
  refine wpAny_Call_method m.base m.few m.line PySem.F.plainAttrs_dict PySem.F.slot_dict_setdefault PySem.F.type_dict_setdefault (thn (ho.run pins s σ H _ I h) fun u s1 ⟨x, H1, I1, rx, a, ex, d, q1⟩ => ?_)
  subst ex
  obtain rfl : u = Value.ref a := rx
  obtain ⟨t1, t2, _⟩ := isD_at I1 d
  refine ⟨t1, t2, ?_⟩
  rw [m.trees]
  refine Calls.callWith_builtin rfl (Calls.evalArgs_plain (Calls.spliced_cons (thn (he.run pins s1 σ H1 _ I1 q1) fun iv s2 ⟨y, H2, I2, ry, q2⟩ =>
    Calls.spliced_cons (thn (hf.run pins s2 σ H2 _ I2 q2) fun fv s3 ⟨z, H3, I3, rz, kvs, k, b, ea, ey, eb, hl, q3, q4⟩ => Calls.spliced_nil ?_))))
  subst ey
  cases ry
  obtain ⟨z0, hd, xs, rel, dd⟩ := dt_of I3.hok ea
  have hz : xs.length ≤ sizeLine := by rw [← Paired.length rel]; exact z0
  refine call_setdefault_heap (knd := tupleKind (mixKind X.prog X.w)) (k := k) (hsz := hz) (tupleKind_room_in1 hu) (key_of I3.hok eb) hd dd (fun p hp => ?_) fun hn h' dd' hs => ?_
  · have r := rel.val k
    rw [hp] at r
    cases ev : valV kvs k with
    | none =>
      rw [ev] at r
      exact (show False from r).elim
    | some v0 =>
      rw [ev] at r
      exact ⟨v0, H3, I3.tok _, r, q3 v0 ev⟩
  · have r := rel.val k
    rw [hn] at r
    cases ev : valV kvs k with
    | some v0 =>
      rw [ev] at r
      exact (show False from r).elim
    | none =>
      have hl2 : (L2.putK kvs k z).length ≤ sizeLine := by have := length_putK kvs k z; omega
      obtain ⟨q, es, ep, hq, h2, h3, h4, _, h5⟩ := dd'
      refine ⟨z, _, d_write (t' := s3.toks + (tupleKind (mixKind X.prog X.w)).draws k) I3 (by rw [ea]; exact True.intro) hs ⟨q, hq⟩ (show ObjOk X.prog X.w _ _ _ (.dT (L2.putK kvs k z)) from ⟨hl2, hd, _, (rel.put k eb rz).keeps fun c ys ec => ?_, q, es, ep, hq, h2, h3, h4, h5⟩), rz, q4 ev⟩
      rw [upd_ne (ne_of ec ea (fun z => nomatch z))]
      exact ec
end
theorem ixK_some : ∀ {ws : List (List L2.Key × V)} {k : List L2.Key} {j : Nat}, ixK (ws.map (·.1)) k = some j → ∃ v, ws[j]? = some (k, v) ∧ valV ws k = some v
  | [], k, j, h => by cases h
  | (x, v) :: ws, k, j, h => by
    have h : (if x = k then some 0 else (ixK (ws.map (·.1)) k).map (· + 1)) = some j := h
    split at h
    · rename_i e
      cases h
      subst e
      exact ⟨v, rfl, by unfold valV; simp⟩
    · rename_i e
      obtain ⟨j', h1, rfl⟩ := Option.map_eq_some_iff.mp h
      obtain ⟨v', h2, h3⟩ := ixK_some h1
      refine ⟨v', by simpa using h2, ?_⟩
      rw [← h3]
      unfold valV
      simp [e]
theorem ixK_none : ∀ {ws : List (List L2.Key × V)} {k : List L2.Key}, ixK (ws.map (·.1)) k = none → valV ws k = none ∧ ∀ v, L2.putK ws k v = ws ++ [(k, v)]
  | [], k, _ => ⟨rfl, fun _ => rfl⟩
  | (x, v) :: ws, k, h => by
    have h : (if x = k then some 0 else (ixK (ws.map (·.1)) k).map (· + 1)) = none := h
    split at h
    · cases h
    · rename_i e
      obtain ⟨h1, h2⟩ := ixK_none (Option.map_eq_none_iff.mp h)
      refine ⟨?_, fun v' => ?_⟩
      · rw [← h1]
        unfold valV
        simp [e]
      · have := h2 v'
        unfold L2.putK at this ⊢
        rw [List.any_cons, decide_eq_false e, Bool.false_or]
        split at this
        · rename_i z
          exact absurd (congrArg List.length this) (by simp)
        · rename_i z
          rw [if_neg z]
section
variable {X : Cx} {ec : EC} {W : WX}
theorem rd_setd {co ck : CE} {f : Expr} {σ : L2.St} {H : Hp} {Q : VK} (h : rd X.K ec W (cSetd co ck) σ H Q) : tDSetdT (rd X.K ec W co) (rd X.K ec W ck) (fun σ H Q => ∀ p, H p = none → Q (.ref p) (upd H p (.lst []))) σ H Q := by
  obtain ⟨w, s, rfl, hr, h⟩ := h
  refine run_cv hr h fun x w1 s1 o le1 r1 ho hn h1 => ?_
  cases o with
  | d y => exact h1.elim
  | t _ _ => exact h1.elim
  | new c => exact absurd rfl (hn c)
  | ref n =>
    dsimp only at h1
    obtain ⟨p, rfl, hp⟩ := ho
    split at h1
    · rename_i ks0 e0
      obtain ⟨hg0, ws0, hv0, hk0⟩ := r1.mem.cell n p _ hp e0
      refine ⟨p, rfl, .inr ⟨ws0, .inl hv0⟩, ?_⟩
      replace h1 : FinV X.K ec W σ Q w1 _ := FinV.le le1 h1
      refine run_cv r1 h1 fun y w2 s2 ky le2 r2 hky hn2 h2 => ?_
      split at h2
      · rename_i ds
        split at h2
        · rename_i ks e1
          split at h2
          · rename_i k ek
            split at h2
            · rename_i h16
              have hp2 := le2.cell hp
              obtain ⟨hg, ws, hv, hk⟩ := r2.mem.cell n p _ hp2 e1
              subst hk
              have hky : Rp X.K w2.G y (.tuple ds) := hky
              cases hky with
              | tup hs ra =>
                rename_i b vs
                have evs : vs = k.map kV := keysOf_ok ra ek
                subst evs
                intro q hq
                have hqp : p ≠ q := fun z => by
                  rw [z, hq] at hv
                  cases hv
                have hbq : b ≠ q := fun z => by
                  have := r2.mem.ext _ _ hs
                  rw [z, hq] at this
                  cases this
                have hvq : upd w2.H q (.lst []) p = some (.dT ws) := by rw [upd_ne hqp]; exact hv
                have r3 := r2.grow (gr_new (o := .lst []) hq)
                have le3 := (gr_new (o := .lst []) hq).le
                refine ⟨ws, k, b, hvq, rfl, by rw [upd_ne hbq]; exact r2.mem.ext _ _ hs, lt16 (by rw [List.length_map] at h16; exact h16), fun v ev => ?_, fun ev => ?_⟩
                · split at h2
                  · rename_i j ej
                    obtain ⟨v0, e2, e3⟩ := ixK_some ej
                    rw [ev] at e3
                    cases e3
                    split at h2
                    · rename_i n' j' dsl e4
                      split at h2
                      · rename_i hnj
                        obtain ⟨rfl, rfl⟩ := hnj
                        have hl : n' + 1 + j' < w2.r.length := by
                          rw [r2.mem.len]
                          exact (List.getElem?_eq_some_iff.mp e4).1
                        obtain ⟨q', hq'⟩ : ∃ q', w2.r[n' + 1 + j']? = some q' := ⟨_, List.getElem?_eq_getElem hl⟩
                        obtain ⟨_, h5⟩ := r2.mem.nv.1 _ q' n' j' dsl hq' e4
                        obtain ⟨ws', k', e6, e7⟩ := h5 p _ hp2 e1
                        rw [hv] at e6
                        cases e6
                        rw [e2] at e7
                        cases e7
                        exact h2 (.ref q') ⟨w2.G, w2.r, w2.F, upd w2.H q (.lst [])⟩ (le2.trans le3) r3 ⟨q', rfl, hq'⟩ .ref
                      · exact h2.elim
                    · exact h2.elim
                  · rename_i ej
                    rw [(ixK_none ej).1] at ev
                    cases ev
                · split at h2
                  · rename_i j ej
                    obtain ⟨v0, _, e3⟩ := ixK_some ej
                    rw [ev] at e3
                    cases e3
                  · rename_i ej
                    have ep := (ixK_none ej).2 (.ref q)
                    rw [ep]
                    have hq0 : q ∉ w2.r := fun m => by
                      obtain ⟨o, ho⟩ := r2.live m
                      rw [hq] at ho
                      cases ho
                    have hqF : ¬ w2.F q := fun z => by
                      obtain ⟨_, _, o, ho⟩ := r2.mem.fo q z
                      rw [hq] at ho
                      cases ho
                    have hnm : n < s2.m.length := (List.getElem?_eq_some_iff.mp e1).1
                    have hGq : w2.G q = none := r2.mem.ext.free hq
                    have pre : ∀ (j : Nat) (x : List L2.Key × V), ws[j]? = some x → (ws ++ [(k, V.ref q)])[j]? = some x := fun j x e => by
                      rw [List.getElem?_append_left (List.getElem?_eq_some_iff.mp e).1]
                      exact e
                    have nv1 : NV ec ⟨w2.G, w2.r, w2.F, upd (upd w2.H q (.lst [])) p (.dT (ws ++ [(k, V.ref q)]))⟩ (s2.m.set n (.r (ws.map (·.1) ++ [k]))) := by
                      refine ⟨fun t q1 n0 j dsl e5 e6 => ?_, fun q1 hq1 => ?_⟩
                      · have ne : n ≠ t := fun z => by
                          subst z
                          rw [List.getElem?_set_self hnm] at e6
                          cases e6
                        rw [List.getElem?_set_ne ne] at e6
                        obtain ⟨g1, g2⟩ := r2.mem.nv.1 t q1 n0 j dsl e5 e6
                        refine ⟨g1, fun p' ks' e7 e8 => ?_⟩
                        by_cases hn0 : n = n0
                        · subst hn0
                          have e7 : w2.r[n]? = some p' := e7
                          rw [hp2] at e7
                          cases e7
                          obtain ⟨ws', k', e9, e10⟩ := g2 p _ hp2 e1
                          rw [hv] at e9
                          cases e9
                          exact ⟨_, k', upd_same, pre _ _ e10⟩
                        · rw [List.getElem?_set_ne hn0] at e8
                          obtain ⟨ws', k', e9, e10⟩ := g2 p' ks' e7 e8
                          have h9 : p' ≠ p := fun z => hn0 (nd_ix r2.mem.nd hp2 (z ▸ e7))
                          have h10 : p' ≠ q := fun z => by
                            rw [z, hq] at e9
                            cases e9
                          exact ⟨ws', k', by show upd (upd _ _ _) _ _ _ = _; rw [upd_ne h9, upd_ne h10]; exact e9, e10⟩
                      · rcases r2.mem.nv.2 q1 hq1 with z | ⟨u, e, z⟩
                        · exact .inl z
                        · have h9 : q1 ≠ p := fun z => (r2.mem.fo q1 hq1).2.1 (z ▸ List.mem_of_getElem? hp2)
                          have h10 : q1 ≠ q := fun z => hqF (z ▸ hq1)
                          exact .inr ⟨u, by show upd (upd _ _ _) _ _ _ = _; rw [upd_ne h9, upd_ne h10]; exact e, z⟩
                    obtain ⟨r4, le4⟩ := cell_setN (c := .r (ws.map (·.1) ++ [k])) (o := .dT (ws ++ [(k, V.ref q)])) r3 hp2 hg ⟨hg, _, upd_same, by rw [List.map_append]; rfl⟩ nv1
                    have hqq : upd (upd w2.H q (.lst [])) p (.dT (ws ++ [(k, V.ref q)])) q = some (.lst []) := by rw [upd_ne (Ne.symm hqp), upd_same]
                    have nv2 : NV ec ⟨w2.G, w2.r ++ [q], w2.F, upd (upd w2.H q (.lst [])) p (.dT (ws ++ [(k, V.ref q)]))⟩ (s2.m.set n (.r (ws.map (·.1) ++ [k])) ++ [.i n (ws.map (·.1)).length []]) := by
                      refine ⟨fun t q1 n0 j dsl e5 e6 => ?_, nv1.2⟩
                      have hl : (s2.m.set n (.r (ws.map (·.1) ++ [k]))).length = w2.r.length := by rw [List.length_set]; exact r2.mem.len.symm
                      have e5 : (w2.r ++ [q])[t]? = some q1 := e5
                      by_cases ht : t < w2.r.length
                      · rw [List.getElem?_append_left ht] at e5
                        rw [List.getElem?_append_left (by omega)] at e6
                        obtain ⟨g1, g2⟩ := nv1.1 t q1 n0 j dsl e5 e6
                        refine ⟨g1, fun p' ks' e7 e8 => g2 p' ks' ?_ ?_⟩
                        · have e7 : (w2.r ++ [q])[n0]? = some p' := e7
                          rw [List.getElem?_append_left (by omega)] at e7
                          exact e7
                        · rw [List.getElem?_append_left (by omega)] at e8
                          exact e8
                      · have htl : t = w2.r.length := by
                          have := (List.getElem?_eq_some_iff.mp e5).1
                          rw [List.length_append, List.length_singleton] at this
                          omega
                        subst htl
                        rw [List.getElem?_append_right (Nat.le_refl _), Nat.sub_self] at e5
                        rw [← hl, List.getElem?_append_right (Nat.le_refl _), Nat.sub_self] at e6
                        cases e5
                        cases e6
                        refine ⟨by rw [r2.mem.len]; exact hnm, fun p' ks' e7 e8 => ?_⟩
                        have e7 : (w2.r ++ [q])[n]? = some p' := e7
                        rw [List.getElem?_append_left (by rw [r2.mem.len]; exact hnm), hp2] at e7
                        cases e7
                        refine ⟨_, k, upd_same, ?_⟩
                        rw [List.length_map, List.getElem?_append_right (Nat.le_refl _), Nat.sub_self]
                        rfl
                    have lew := le2.trans (le3.trans le4)
                    obtain ⟨r5, le5⟩ := cell_inN (w := w1) (c := .i n (ws.map (·.1)).length []) (by intro z; cases z) nv2 r1.mem.inv lew r4 ⟨hq0, hqF⟩ (by
                      cases hw : w1.H q with
                      | none => rfl
                      | some o =>
                        by_cases hm : q ∈ w1.r
                        · exact absurd (le2.mem hm) hq0
                        · obtain ⟨o', e', _⟩ := le2.k q o hw hm
                          rw [hq] at e'
                          cases e') ⟨hGq, [], hqq, .nil⟩
                    refine h2 (.ref q) _ le5 r5 ⟨q, rfl, ?_⟩ .ref
                    show (w2.r ++ [q])[s2.m.length]? = some q
                    rw [← r2.mem.len, List.getElem?_append_right (Nat.le_refl _), Nat.sub_self]
                    rfl
            · exact h2.elim
          · exact h2.elim
        · exact h2.elim
      · exact h2.elim
    · exact h1.elim
end
end Vm
namespace Vm
open PySem L2 PySem.Spec PyProof.Rows
section
variable {X : Cx} {ec : EC} {W : WX}
theorem e_setd {o e : Expr} {co ck : CE} {apos lp cpos : Pos} (hu : X.A.units + 1 < cLine) (ho : Ex X ec W o co) (he : Ex X ec W e ck) (m : M2 X o "setdefault" apos e (.List [] lp) cpos := by exact ⟨rfl, rfl, rfl, rfl⟩) : Ex X ec W (.Call (.Attribute o "setdefault" apos) [e, .List [] lp] [] cpos) (cSetd co ck) :=
  (pe_dsetdT hu ho he ((pe_lst pa_nil).imp (t' := fun σ H Q => ∀ p, H p = none → Q (.ref p) (upd H p (.lst []))) fun σ H Q h => ⟨by decide, h⟩) m).imp fun σ H Q h => rd_setd (f := e) h
theorem nv_seti {w : Wd} {m : List Cell} {t n j : Nat} {q : Addr} {xs ys : List D} {o : HO} (nd : w.r.Nodup) (hq : w.r[t]? = some q) (hm : m[t]? = some (.i n j xs)) (hF : ∀ p, w.F p → p ≠ q) (h : NV ec w m) : NV ec ⟨w.G, w.r, w.F, upd w.H q o⟩ (m.set t (.i n j ys)) := by
  have hl : t < m.length := (List.getElem?_eq_some_iff.mp hm).1
  refine ⟨fun t' q' n' j' ds e1 e2 => ?_, fun p hp => ?_⟩
  · have e1 : w.r[t']? = some q' := e1
    obtain ⟨xs', hm'⟩ : ∃ xs', m[t']? = some (.i n' j' xs') := by
      by_cases ht : t = t'
      · subst ht
        rw [List.getElem?_set_self hl] at e2
        cases e2
        exact ⟨xs, hm⟩
      · rw [List.getElem?_set_ne ht] at e2
        exact ⟨ds, e2⟩
    obtain ⟨h1, h2⟩ := h.1 t' q' n' j' xs' e1 hm'
    refine ⟨h1, fun p ks e3 e4 => ?_⟩
    have ne : t ≠ n' := fun z => by
      subst z
      rw [List.getElem?_set_self hl] at e4
      cases e4
    rw [List.getElem?_set_ne ne] at e4
    obtain ⟨ws, k, e5, e6⟩ := h2 p ks e3 e4
    have hp : p ≠ q := fun z => ne (nd_ix nd hq (z ▸ e3))
    exact ⟨ws, k, by show upd w.H q o p = _; rw [upd_ne hp]; exact e5, e6⟩
  · rcases h.2 p hp with z | ⟨u, e, z⟩
    · exact .inl z
    · exact .inr ⟨u, by show upd w.H q o p = _; rw [upd_ne (hF p hp)]; exact e, z⟩
def cAppI (co : CE) (ca : CA) : CE := fun s => (cv co s).bind fun o s1 => match o with
  | .ref t => match s1.m[t]? with
    | some (.i _ _ _) => (ca s1).bind fun ds s2 => match s2.m[t]? with
      | some (.i n j xs) => match fApp xs ds with
        | some (d, ys) => .ok (.d d) ⟨s2.v, s2.m.set t (.i n j ys)⟩
        | none => .bad
      | _ => .bad
    | _ => .bad
  | _ => .bad
theorem appI_ok {co : CE} {ca : CA} {σ : L2.St} {H : Hp} {Q : VK} (h : rd X.K ec W (cAppI co ca) σ H Q) : rd X.K ec W co σ H fun x H1 => tyV X.K "list" x H1 ∧ rdA X.K ec W ca σ H1 fun us H2 => rAppend x us H2 Q := by
  obtain ⟨w, s, rfl, hr, h⟩ := h
  refine run_cv hr h fun x w1 s1 o le1 r1 ho hn h1 => ?_
  cases o with
  | d y => exact h1.elim
  | t _ _ => exact h1.elim
  | new c => exact absurd rfl (hn c)
  | ref n =>
    dsimp only at h1
    obtain ⟨p, rfl, hp⟩ := ho
    split at h1
    · rename_i n0 j0 xs0 e0
      obtain ⟨hg0, vs0, hv0, _⟩ := r1.mem.cell n p _ hp e0
      refine ⟨.inl ⟨rfl, vs0, SqL.of hv0⟩, w1, s1, rfl, r1, ?_⟩
      refine Res.mono h1.bind (fun ds s2 h2 us w2 le2 r2 ra => ?_) fun _ _ q => okE_le le1 q
      split at h2
      · rename_i n1 j1 xs e1
        split at h2
        · rename_i d ys e2
          have hp2 := le2.cell hp
          obtain ⟨hg, vs, hv, rx⟩ := r2.mem.cell n p _ hp2 e1
          refine m_append w2 p vs xs us ds d ys Q r2.mem.ext hg hv rx ra e2 fun x zs rd' rz => ?_
          obtain ⟨r3, le3⟩ := cell_setN (c := .i n1 j1 ys) (o := .lst zs) r2 hp2 hg ⟨hg, zs, upd_same, rz⟩ (nv_seti r2.mem.nd hp2 e1 (fun q hq z => (r2.mem.fo q hq).2.1 (z ▸ List.mem_of_getElem? hp2)) r2.mem.nv)
          exact h2 x ⟨w2.G, w2.r, w2.F, upd w2.H p (.lst zs)⟩ ((le1.trans le2).trans le3) r3 rd' .d
        · exact h2.elim
      · exact h2.elim
    · exact h1.elim
theorem e_appI {o e : Expr} {apos cpos : Pos} {co : CE} {ca : CA} (ho : Ex X ec W o co) (ha : PA X [e] (rdA X.K ec W ca))
    (hbase : attributeBase o "append" X.env (eval o X.env) = eval o X.env := by rfl)
    (hfew : ((backTo cpos (starEach [e] X.env)).all (fun x => !x.1) && (backToKw cpos (keywordEach [] X.env)).all (fun x => x.1.isSome)
      && decide ([e].length + ([] : List Keyword).length + (if ([] : List Keyword).isEmpty then 0 else 1) < 30)) = true := by rfl)
    (hline : (apos.endLine == cpos.line) = true := by rfl) (hs : starEach [e] X.env = (false, eval e X.env) :: starEach [] X.env := by rfl) (hplain : (backTo cpos (starEach [] X.env)).any (·.1) = false := by rfl) :
    Ex X ec W (.Call (.Attribute o "append" apos) [e] [] cpos) (cAppI co ca) :=
  (pe_bm F.plainAttrs_list F.slot_list_append F.type_list_append mt_append ho ha hbase hfew hline hs hplain).imp fun σ H Q h => appI_ok h
/-! ### a name's dict of lists becomes data -/
def colI (m : List Cell) (n : Nat) : Nat → Nat → Option (List (List D))
  | _, 0 => some []
  | j, c + 1 => match m[n + 1 + j]? with
    | some (.i n' j' ds) => if n' = n ∧ j' = j then (colI m n (j + 1) c).map (ds :: ·) else none
    | _ => none
def goneI (m : List Cell) (n : Nat) : Nat → Nat → List Cell
  | _, 0 => m
  | j, c + 1 => goneI (m.set (n + 1 + j) .gone) n (j + 1) c
def cFzR (i : Nat) : CE := fun s => match s.v[i]? with
  | some (.c n) => match s.m[n]? with
    | some (.r ks) => match colI s.m n 0 ks.length with
      | some lss => .ok (.d (tD (ks.zip (lss.map PyData.list)))) ⟨s.v.set i (.d (tD (ks.zip (lss.map PyData.list)))), (goneI s.m n 0 ks.length).set n .gone⟩
      | none => .bad
    | _ => .bad
  | _ => .bad
theorem colI_set {n : Nat} {c : Cell} : ∀ {k j t : Nat} {m : List Cell}, t < n + 1 + j → colI (m.set t c) n j k = colI m n j k
  | 0, j, t, m, h => rfl
  | k + 1, j, t, m, h => by
    unfold colI
    rw [List.getElem?_set_ne (by omega), colI_set (by omega)]
theorem frz_i {K : Fg} {σ : L2.St} {n : Nat} {p : Addr} {ks : List (List L2.Key)} {ws : List (List L2.Key × V)} : ∀ {c j : Nat} {w : Wd} {s : S} {lss : List (List D)}, Rel ec K w σ s → w.r[n]? = some p → s.m[n]? = some (.r ks) → w.H p = some (.dT ws) → colI s.m n j c = some lss →
    ∃ G', Same w.G G' ∧ Rel ec K ⟨G', w.r, w.F, w.H⟩ σ ⟨s.v, goneI s.m n j c⟩ ∧ Le w ⟨G', w.r, w.F, w.H⟩ ∧ (goneI s.m n j c)[n]? = some (.r ks) ∧ lss.length = c ∧ ∀ i ds, lss[i]? = some ds → ∃ k q, ws[j + i]? = some (k, .ref q) ∧ Rp K G' (.ref q) (.list ds)
  | 0, j, w, s, lss, r, hp, hm, hv, hc => by
    cases hc
    exact ⟨w.G, Same.refl _, r, Le.refl w, hm, rfl, fun i ds e => by simp at e⟩
  | c + 1, j, w, s, lss, r, hp, hm, hv, hc => by
    unfold colI at hc
    split at hc
    · rename_i n' j' ds e1
      split at hc
      · rename_i hnj
        obtain ⟨rfl, rfl⟩ := hnj
        obtain ⟨lss', e2, rfl⟩ := Option.map_eq_some_iff.mp hc
        have hl : n' + 1 + j' < w.r.length := by
          rw [r.mem.len]
          exact (List.getElem?_eq_some_iff.mp e1).1
        obtain ⟨q, hq⟩ : ∃ q, w.r[n' + 1 + j']? = some q := ⟨_, List.getElem?_eq_getElem hl⟩
        obtain ⟨_, h5⟩ := r.mem.nv.1 _ q n' j' ds hq e1
        obtain ⟨ws', k, e6, e7⟩ := h5 p _ hp hm
        rw [hv] at e6
        cases e6
        obtain ⟨hg, vs, hvq, ra⟩ := r.mem.cell _ q _ hq e1
        obtain ⟨r2, le2, rr⟩ := cell_outN (d := .list ds) r hq hg hvq noTb_l fun G' sg e => .lst (SqL.of e) (ra.mono sg)
        obtain ⟨G', g1, g2, g3, g4, g5, g6⟩ := frz_i (c := c) (j := j' + 1) (lss := lss') r2 (p := p) hp (by rw [List.getElem?_set_ne (by omega)]; exact hm) hv (by
          show colI (s.m.set (n' + 1 + j') .gone) n' (j' + 1) c = _
          rw [colI_set (by omega)]
          exact e2)
        refine ⟨G', (same_upd hg).trans g1, g2, le2.trans g3, g4, by rw [List.length_cons, g5], fun i ds' e => ?_⟩
        cases i with
        | zero =>
          cases e
          exact ⟨k, q, e7, rr.mono g1⟩
        | succ i =>
          obtain ⟨k', q', e8, e9⟩ := g6 i ds' (by simpa using e)
          exact ⟨k', q', by rw [show j' + (i + 1) = j' + 1 + i by omega]; exact e8, e9⟩
      · cases hc
    · cases hc
theorem kvAll_ix {K : Fg} {G : Hp} : ∀ {ws : List (List L2.Key × V)} {lss : List (List D)}, lss.length = ws.length → (∀ (i : Nat) (ds : List D), lss[i]? = some ds → ∃ (k : List L2.Key) (q : Addr), ws[i]? = some (k, V.ref q) ∧ Rp K G (.ref q) (.list ds)) → KvAll K G ws ((ws.map (·.1)).zip (lss.map PyData.list))
  | [], [], _, _ => .nil
  | w :: ws, l :: lss, hl, h => by
    obtain ⟨k, q, e, r⟩ := h 0 l rfl
    cases e
    refine .cons ⟨rfl, r⟩ (kvAll_ix (by simpa using hl) fun i ds e => ?_)
    obtain ⟨k', q', e1, e2⟩ := h (i + 1) ds (by simpa using e)
    exact ⟨k', q', by simpa using e1, e2⟩
  | [], _ :: _, hl, _ => by simp at hl
  | _ :: _, [], hl, _ => by simp at hl
theorem e_fzR (i : Nat) {x : Str} {pos : Pos} (hN : X.N[i]? = some x := by rfl) (hv : Vis X.env.scope x := by first | exact Or.inl rfl | exact Or.inr (Or.inl rfl) | exact Or.inr (Or.inr rfl)) (hd : (x == ("__debug__" : Str)) = false := by decide)
    (hcd : (x == ("__classdict__" : Str)) = false := by decide) : Ex X ec W (.Name x pos) (cFzR i) := (PE_lock (pe_var hN hv hd hcd)).imp fun σ H Q h => by
  obtain ⟨w, s, rfl, hr, h⟩ := h
  unfold cFzR at h
  split at h
  · rename_i n e
    obtain ⟨p, e2, rp⟩ := hr.slot i _ e
    refine ⟨.ref p, e2, ?_⟩
    split at h
    · rename_i ks ec'
      obtain ⟨hg, ws, hv, hk⟩ := hr.mem.cell n p _ rp ec'
      split at h
      · rename_i lss ecol
        obtain ⟨G', g1, g2, g3, g4, g5, g6⟩ := frz_i hr rp ec' hv ecol
        subst hk
        have hg' : G' p = none := by
          obtain ⟨a, _⟩ := g2.mem.cell n p _ rp g4
          exact a
        have kv : KvAll X.K G' ws ((ws.map (·.1)).zip (lss.map PyData.list)) := kvAll_ix (by rw [g5, List.length_map]) fun i ds e => by
          obtain ⟨k, q, e1, e2⟩ := g6 i ds e
          exact ⟨k, q, by rw [Nat.zero_add] at e1; exact e1, e2⟩
        have hn : n < (goneI s.m n 0 (ws.map (·.1)).length).length := (List.getElem?_eq_some_iff.mp g4).1
        have hm : p ∈ w.r := List.mem_of_getElem? rp
        refine .inr ⟨p, ws, rfl, hv, fun od => ?_⟩
        obtain ⟨r2, rr⟩ := lockW (od := od) (m2 := (goneI s.m n 0 (ws.map (·.1)).length).set n .gone) g2 (fun z => (hr.mem.fo p z).2.1 hm) hg' hv kv (fun o e => by
            rcases hr.mem.inv.f p hm with z | z
            · exact z
            · rw [z] at e; cases e) (List.length_set ..) (fun k c e1 ne => by
            have hk : n ≠ k := fun z => by
              subst z
              exact ne rp
            rw [List.getElem?_set_ne hk] at e1
            exact e1) (fun k c e1 e2 => by
            have hk : n = k := nd_ix hr.mem.nd rp e2
            subst hk
            rw [List.getElem?_set_self hn] at e1
            exact (Option.some.inj e1).symm)
        refine h (.ref p) _ (le_lock g3 hg' fun u _ => hm) ⟨r2.mem, ?_, fun j sl e1 => ?_⟩ rr .d
        · show σ.length = (s.v.set i _).length
          rw [List.length_set]
          exact hr.len
        · have e1 : (s.v.set i (.d (tD ((ws.map (·.1)).zip (lss.map PyData.list)))))[j]? = some sl := e1
          by_cases hj : i = j
          · subst hj
            have hl : i < s.v.length := (List.getElem?_eq_some_iff.mp e).1
            rw [List.getElem?_set_self hl] at e1
            cases e1
            exact ⟨.ref p, e2, rr⟩
          · rw [List.getElem?_set_ne hj] at e1
            exact r2.slot j sl e1
      · exact h.elim
    · exact h.elim
  · exact h.elim
end
end Vm
namespace Vm
open PySem L2 PySem.Spec PyProof.Rows
/-! ### loads as keys -/
def kI (xs : List Int) : List L2.Key := xs.map Sum.inl
def ldD (xs : List Int) : D := .tuple (xs.map PyData.int)
theorem tupK_kI (xs : List Int) : tupK (kI xs) = ldD xs := by
  unfold tupK kI ldD
  rw [List.map_map]
  rfl
theorem kI_inj {x y : List Int} : kI x = kI y ↔ x = y := List.map_inj_right fun a b e => Sum.inl.inj e
theorem keysOf_kI (xs : List Int) : keysOf (xs.map PyData.int) = some (kI xs) := by
  have : xs.map PyData.int = (kI xs).map kD := by
    unfold kI
    rw [List.map_map]
    rfl
  rw [this]
  exact keysOf_kD
section
variable {β γ : Type}
def keys (F : List (List Int × β)) : List (List Int) := F.map (·.1)
def aget (F : List (List Int × β)) (k : List Int) : Option β := (F.find? fun p => decide (p.1 = k)).map (·.2)
def aput (F : List (List Int × β)) (k : List Int) (v : β) : List (List Int × β) := if (F.any fun p => decide (p.1 = k)) = true then F.map (fun p => if p.1 = k then (p.1, v) else p) else F ++ [(k, v)]
theorem aget_nil {k : List Int} : aget ([] : List (List Int × β)) k = none := rfl
theorem aget_cons {p : List Int × β} {F : List (List Int × β)} {k : List Int} : aget (p :: F) k = if p.1 = k then some p.2 else aget F k := by
  unfold aget
  rw [List.find?_cons]
  by_cases h : p.1 = k
  · simp [h]
  · simp [h]
theorem any_keys {F : List (List Int × β)} {k : List Int} : (F.any fun p => decide (p.1 = k)) = true ↔ k ∈ keys F := by
  unfold keys
  rw [List.any_eq_true, List.mem_map]
  constructor
  · rintro ⟨p, h1, h2⟩
    exact ⟨p, h1, of_decide_eq_true h2⟩
  · rintro ⟨p, h1, h2⟩
    exact ⟨p, h1, decide_eq_true h2⟩
theorem aget_isSome {k : List Int} : ∀ {F : List (List Int × β)}, (aget F k).isSome = true ↔ k ∈ keys F
  | [] => by simp [aget, keys]
  | p :: F => by
    rw [aget_cons]
    show _ ↔ k ∈ p.1 :: keys F
    rw [List.mem_cons]
    by_cases h : p.1 = k
    · simp [h]
    · rw [if_neg h, aget_isSome]
      exact ⟨.inr, fun z => z.resolve_left fun e => h e.symm⟩
theorem aget_none {F : List (List Int × β)} {k : List Int} (h : k ∉ keys F) : aget F k = none := by
  cases e : aget F k with
  | none => rfl
  | some v => exact absurd (aget_isSome.mp (by rw [e]; rfl)) h
theorem aput_old {F : List (List Int × β)} {k : List Int} {v : β} (h : k ∈ keys F) : aput F k v = F.map (fun p => if p.1 = k then (p.1, v) else p) := by
  unfold aput
  rw [if_pos (any_keys.mpr h)]
theorem aput_new {F : List (List Int × β)} {k : List Int} {v : β} (h : k ∉ keys F) : aput F k v = F ++ [(k, v)] := by
  unfold aput
  rw [if_neg fun z => h (any_keys.mp z)]
theorem keys_aput {F : List (List Int × β)} {k : List Int} {v : β} : keys (aput F k v) = if k ∈ keys F then keys F else keys F ++ [k] := by
  by_cases h : k ∈ keys F
  · rw [aput_old h, if_pos h]
    unfold keys
    rw [List.map_map]
    apply List.map_congr_left
    intro p _
    show (if p.1 = k then (p.1, v) else p).1 = p.1
    split <;> rfl
  · rw [aput_new h, if_neg h]
    unfold keys
    rw [List.map_append]
    rfl
theorem nodup_aput {F : List (List Int × β)} {k : List Int} {v : β} (h : (keys F).Nodup) : (keys (aput F k v)).Nodup := by
  rw [keys_aput]
  split
  · exact h
  · rename_i hk
    refine List.nodup_append.mpr ⟨h, by simp, fun a ha b hb e => ?_⟩
    rw [List.mem_singleton.mp hb] at e
    exact hk (e ▸ ha)
theorem mem_aput {F : List (List Int × β)} {k t : List Int} {v : β} : t ∈ keys (aput F k v) ↔ t ∈ keys F ∨ t = k := by
  rw [keys_aput]
  split
  · rename_i h
    exact ⟨.inl, fun z => z.elim id fun e => e ▸ h⟩
  · rw [List.mem_append, List.mem_singleton]
theorem aget_map {v : β} {k t : List Int} : ∀ {F : List (List Int × β)}, aget (F.map fun p => if p.1 = k then (p.1, v) else p) t = if t = k then (aget F t).map fun _ => v else aget F t
  | [] => by simp [aget]
  | p :: F => by
    rw [List.map_cons, aget_cons, aget_cons, aget_map]
    by_cases h1 : p.1 = k
    · rw [if_pos h1]
      by_cases h2 : p.1 = t
      · rw [if_pos h2, if_pos h2, if_pos (h2.symm.trans h1)]
        rfl
      · have h3 : ¬ t = k := fun z => h2 (h1.trans z.symm)
        rw [if_neg h2, if_neg h2, if_neg h3]
    · rw [if_neg h1]
      by_cases h2 : p.1 = t
      · have h3 : ¬ t = k := fun z => h1 (h2.trans z)
        rw [if_pos h2, if_pos h2, if_neg h3]
      · rw [if_neg h2, if_neg h2]
theorem aget_append {t : List Int} {G : List (List Int × β)} : ∀ {F : List (List Int × β)}, aget (F ++ G) t = (aget F t).or (aget G t)
  | [] => by simp [aget]
  | p :: F => by
    rw [List.cons_append, aget_cons, aget_cons, aget_append]
    split
    · rfl
    · rfl
theorem aget_aput {F : List (List Int × β)} {k t : List Int} {v : β} : aget (aput F k v) t = if t = k then some v else aget F t := by
  by_cases h : k ∈ keys F
  · rw [aput_old h, aget_map]
    by_cases e : t = k
    · subst e
      rw [if_pos rfl, if_pos rfl]
      obtain ⟨w, hw⟩ := Option.isSome_iff_exists.mp (aget_isSome.mpr h)
      rw [hw]
      rfl
    · rw [if_neg e, if_neg e]
  · rw [aput_new h, aget_append, aget_cons]
    by_cases e : t = k
    · subst e
      rw [aget_none h, if_pos rfl, if_pos rfl]
      rfl
    · rw [if_neg e, if_neg (fun z => e z.symm), aget_nil, Option.or_none]
end
/-! the cells -/
def tkv (F : List (List Int × D)) : List (List L2.Key × D) := F.map fun p => (kI p.1, p.2)
theorem getD_tkv {k : List Int} : ∀ {F : List (List Int × D)}, getD (tkv F) (kI k) = aget F k
  | [] => rfl
  | p :: F => by
    have ih := getD_tkv (k := k) (F := F)
    unfold getD at ih ⊢
    show ((kI p.1, p.2) :: tkv F |>.find? _).map _ = _
    rw [List.find?_cons, aget_cons]
    by_cases h : p.1 = k
    · subst h
      simp
    · have h' : ¬ kI p.1 = kI k := fun z => h (kI_inj.mp z)
      simp only [h', decide_false]
      rw [if_neg h]
      exact ih
theorem any_tkv {k : List Int} : ∀ {F : List (List Int × D)}, ((tkv F).any fun kv => decide (kv.1 = kI k)) = F.any fun p => decide (p.1 = k)
  | [] => rfl
  | p :: F => by
    show (decide (kI p.1 = kI k) || (tkv F).any _) = (decide (p.1 = k) || F.any _)
    rw [any_tkv]
    congr 1
    exact decide_eq_decide.mpr kI_inj
theorem putD_tkv {k : List Int} {v : D} {F : List (List Int × D)} : putD (tkv F) (kI k) v = tkv (aput F k v) := by
  unfold putD aput
  rw [any_tkv]
  split
  · unfold tkv
    rw [List.map_map, List.map_map]
    apply List.map_congr_left
    intro p _
    show (if kI p.1 = kI k then (kI p.1, v) else (kI p.1, p.2)) = (fun p : List Int × D => (kI p.1, p.2)) (if p.1 = k then (p.1, v) else p)
    by_cases h : p.1 = k
    · rw [if_pos h, if_pos (kI_inj.mpr h)]
    · rw [if_neg h, if_neg fun z => h (kI_inj.mp z)]
  · unfold tkv
    rw [List.map_append]
    rfl
/-- a dict of loads as data -/
def dT (F : List (List Int × D)) : D := tD (tkv F)
theorem dT_eq (F : List (List Int × D)) : dT F = .dict (tagT :: F.map fun p => (ldD p.1, p.2)) := by
  unfold dT tD tkv
  rw [List.map_map]
  congr 2
  apply List.map_congr_left
  intro p _
  show (tupK (kI p.1), p.2) = _
  rw [tupK_kI]
/-! the order -/
def sortL (ks : List (List Int)) : List (List Int) := ks.mergeSort fun x y => decide (x ≤ y)
theorem dataLe_ld : PySem.W.dataLe false ldD = fun x y => decide (x ≤ y) := by
  funext x y
  show (!PySem.W.dataLt (.tuple (y.map PyData.int)) (.tuple (x.map PyData.int))) = _
  rw [PySem.W.dataLt_tuple]
  have := PySem.W.dataLt_ints y x
  unfold PySem.W.rowLt at this
  rw [this]
  by_cases h : y < x
  · rw [decide_eq_true h, decide_eq_false (List.not_le.mpr h)]
    rfl
  · rw [decide_eq_false h, decide_eq_true (List.not_lt.mp h)]
    rfl
theorem sortX_ld (ks : List (List Int)) : sortX (ks.map ldD) = (sortL ks).map ldD := by
  rw [← sortX_map, dataLe_ld]
  rfl
theorem sortL_perm (ks : List (List Int)) : (sortL ks).Perm ks := List.mergeSort_perm _ _
theorem sortL_pw (ks : List (List Int)) : (sortL ks).Pairwise (· ≤ ·) := by
  have := List.pairwise_mergeSort (le := fun x y : List Int => decide (x ≤ y)) (fun a b c h1 h2 => decide_eq_true (List.le_trans (of_decide_eq_true h1) (of_decide_eq_true h2))) (fun a b => by
    rcases List.le_total a b with h | h
    · simp [h]
    · simp [h]) ks
  exact this.imp fun h => of_decide_eq_true h
theorem sortL_congr {as bs : List (List Int)} (h : as.Perm bs) : sortL as = sortL bs :=
  ((sortL_perm as).trans (h.trans (sortL_perm bs).symm)).eq_of_pairwise (fun a b _ _ h1 h2 => List.le_antisymm h1 h2) (sortL_pw as) (sortL_pw bs)
theorem sortL_mem {ks : List (List Int)} {k : List Int} : k ∈ sortL ks ↔ k ∈ ks := (sortL_perm ks).mem_iff
theorem sortL_len {ks : List (List Int)} : (sortL ks).length = ks.length := (sortL_perm ks).length_eq
theorem sortL_set {as bs : List (List Int)} (ha : as.Nodup) (hb : bs.Nodup) (h : ∀ k, k ∈ as ↔ k ∈ bs) : sortL as = sortL bs := sortL_congr ((List.perm_ext_iff_of_nodup ha hb).mpr h)
/-! ### weights counted -/
def accW (F : List (List Int × Int)) (e : List Int × Int) : List (List Int × Int) := aput F e.1 ((aget F e.1).getD 0 + e.2)
def wt (F : List (List Int × Int)) (k : List Int) : Int := (aget F k).getD 0
def sumW (F : List (List Int × Int)) : Int := (F.map (·.2)).sum
theorem wt_acc {F : List (List Int × Int)} {e : List Int × Int} {t : List Int} : wt (accW F e) t = wt F t + if e.1 = t then e.2 else 0 := by
  unfold accW wt
  rw [aget_aput]
  by_cases h : t = e.1
  · rw [if_pos h, if_pos h.symm, h]
    rfl
  · rw [if_neg h, if_neg fun z => h z.symm, Int.add_zero]
theorem keys_acc {F : List (List Int × Int)} {e : List Int × Int} {t : List Int} : t ∈ keys (accW F e) ↔ t ∈ keys F ∨ t = e.1 := mem_aput
theorem sum_upd {k : List Int} {v : Int} : ∀ {F : List (List Int × Int)}, (keys F).Nodup → k ∈ keys F → sumW (F.map fun p => if p.1 = k then (p.1, v) else p) = sumW F - wt F k + v
  | p :: F, hn, hk => by
    have hn : (p.1 :: keys F).Nodup := hn
    rw [List.nodup_cons] at hn
    have hk : k ∈ p.1 :: keys F := hk
    show ((if p.1 = k then (p.1, v) else p).2 + sumW (F.map _)) = (p.2 + sumW F) - wt (p :: F) k + v
    by_cases h : p.1 = k
    · have hm : (F.map fun p => if p.1 = k then (p.1, v) else p) = F := by
        conv => rhs; rw [← List.map_id F]
        apply List.map_congr_left
        intro q hq
        have : q.1 ≠ k := fun z => hn.1 (by rw [h, ← z]; exact List.mem_map_of_mem (f := (·.1)) hq)
        rw [if_neg this]
        rfl
      rw [if_pos h, hm]
      unfold wt
      rw [aget_cons, if_pos h]
      show v + sumW F = p.2 + sumW F - p.2 + v
      omega
    · rw [if_neg h, sum_upd hn.2 ((List.mem_cons.mp hk).resolve_left fun z => h z.symm)]
      unfold wt
      rw [aget_cons, if_neg h]
      omega
theorem sum_acc {F : List (List Int × Int)} {e : List Int × Int} (hn : (keys F).Nodup) : sumW (accW F e) = sumW F + e.2 := by
  unfold accW
  by_cases h : e.1 ∈ keys F
  · rw [aput_old h, sum_upd hn h]
    unfold wt
    omega
  · rw [aput_new h, aget_none h]
    unfold sumW
    rw [List.map_append, List.sum_append]
    simp
def accL (E : List (List Int × Int)) : List (List Int × Int) := E.foldl accW []
/-- what the events E give to t -/
def evW (E : List (List Int × Int)) (t : List Int) : Int := (E.map fun e => if e.1 = t then e.2 else 0).sum
theorem accL_ok (E : List (List Int × Int)) : ∀ F : List (List Int × Int), (keys F).Nodup → (keys (E.foldl accW F)).Nodup ∧ (∀ t, t ∈ keys (E.foldl accW F) ↔ t ∈ keys F ∨ t ∈ keys E) ∧ (∀ t, wt (E.foldl accW F) t = wt F t + evW E t) ∧ sumW (E.foldl accW F) = sumW F + sumW E := by
  induction E with
  | nil =>
    intro F hn
    exact ⟨hn, fun t => by simp [keys], fun t => by simp [evW], by simp [sumW]⟩
  | cons e E ih =>
    intro F hn
    obtain ⟨h1, h2, h3, h4⟩ := ih (accW F e) (nodup_aput hn)
    refine ⟨h1, fun t => ?_, fun t => ?_, ?_⟩
    · show t ∈ keys (E.foldl accW (accW F e)) ↔ t ∈ keys F ∨ t ∈ e.1 :: keys E
      rw [h2, keys_acc, List.mem_cons, or_assoc]
    · show wt (E.foldl accW (accW F e)) t = wt F t + ((if e.1 = t then e.2 else 0) + evW E t)
      rw [h3, wt_acc]
      omega
    · show sumW (E.foldl accW (accW F e)) = sumW F + (e.2 + sumW E)
      rw [h4, sum_acc hn]
      omega
theorem accL_nodup (E : List (List Int × Int)) : (keys (accL E)).Nodup := (accL_ok E [] .nil).1
theorem accL_keys {E : List (List Int × Int)} {t : List Int} : t ∈ keys (accL E) ↔ t ∈ keys E := by
  rw [accL, (accL_ok E [] .nil).2.1]
  simp [keys]
theorem accL_wt {E : List (List Int × Int)} {t : List Int} : wt (accL E) t = evW E t := by
  rw [accL, (accL_ok E [] .nil).2.2.1]
  simp [wt, aget]
theorem accL_sum {E : List (List Int × Int)} : sumW (accL E) = sumW E := by
  rw [accL, (accL_ok E [] .nil).2.2.2]
  simp [sumW]
/-! ### parts gathered -/
def pushK (G : List (List Int × List D)) (e : List Int × D) : List (List Int × List D) := aput G e.1 ((aget G e.1).getD [] ++ [e.2])
def grp (E : List (List Int × D)) : List (List Int × List D) := E.foldl pushK []
def evD (E : List (List Int × D)) (t : List Int) : List D := (E.filter fun e => decide (e.1 = t)).map (·.2)
theorem grp_ok (E : List (List Int × D)) : ∀ G : List (List Int × List D), (keys G).Nodup → (keys (E.foldl pushK G)).Nodup ∧ (∀ t, t ∈ keys (E.foldl pushK G) ↔ t ∈ keys G ∨ t ∈ keys E) ∧ ∀ t, (aget (E.foldl pushK G) t).getD [] = (aget G t).getD [] ++ evD E t := by
  induction E with
  | nil =>
    intro G hn
    exact ⟨hn, fun t => by simp [keys], fun t => by simp [evD]⟩
  | cons e E ih =>
    intro G hn
    obtain ⟨h1, h2, h3⟩ := ih (pushK G e) (nodup_aput hn)
    refine ⟨h1, fun t => ?_, fun t => ?_⟩
    · show t ∈ keys (E.foldl pushK (pushK G e)) ↔ t ∈ keys G ∨ t ∈ e.1 :: keys E
      rw [h2, List.mem_cons, ← or_assoc]
      unfold pushK
      rw [mem_aput]
    · show (aget (E.foldl pushK (pushK G e)) t).getD [] = _
      rw [h3]
      unfold pushK evD
      rw [aget_aput, List.filter_cons]
      by_cases h : e.1 = t
      · rw [if_pos h.symm, if_pos (by simpa using h), h]
        simp
      · rw [if_neg fun z => h z.symm, if_neg (by simpa using h)]
theorem grp_nodup (E : List (List Int × D)) : (keys (grp E)).Nodup := (grp_ok E [] .nil).1
theorem grp_keys {E : List (List Int × D)} {t : List Int} : t ∈ keys (grp E) ↔ t ∈ keys E := by
  rw [grp, (grp_ok E [] .nil).2.1]
  simp [keys]
theorem grp_get {E : List (List Int × D)} {t : List Int} (h : t ∈ keys E) : aget (grp E) t = some (evD E t) := by
  have h1 := (grp_ok E [] .nil).2.2 t
  have h2 := aget_isSome.mpr (grp_keys.mpr h)
  unfold grp at h2 ⊢
  cases e : aget (E.foldl pushK []) t with
  | none =>
    rw [e] at h2
    cases h2
  | some v =>
    rw [e] at h1
    simp [aget] at h1
    rw [h1]
end Vm
namespace Vm
open PySem L2 PySem.Spec PyProof.Rows
/-! ### d.get(k, x) -/
/-- a dict whose keys are tuples of tuples -/
def isTagN : List (D × D) → Bool
  | (.list (_ :: _), _) :: _ => true
  | _ => false
def dctOd : Od → Bool
  | .c (.k _) => true
  | .c (.t _) => true
  | .d (.dict es) => !isTagN es
  | _ => false
theorem dctOd_ok {K : Fg} {w : Wd} {x : V} {o : Od} (hx : Same w.G w.H) (h : OdOk K w x o) (e : dctOd o = true) : ∃ a, x = .ref a ∧ IsD w.H a := by
  unfold dctOd at e
  split at e
  · obtain ⟨p, rfl, ⟨_, ws, hw, _⟩, _⟩ := h
    exact ⟨p, rfl, .inl ⟨ws, .inl hw⟩⟩
  · obtain ⟨p, rfl, ⟨_, ws, hw, _⟩, _⟩ := h
    exact ⟨p, rfl, .inr ⟨ws, .inl hw⟩⟩
  · rename_i es
    cases ht : isTag es with
    | false =>
      obtain ⟨p, ws, rfl, hw, _⟩ := h.dict hx ht
      exact ⟨p, rfl, .inl ⟨ws, .inl hw⟩⟩
    | true =>
      rcases h with h | ⟨p, vs, ds, rfl, e, _⟩
      · cases h with
        | dct a b => exact ⟨_, rfl, .inl ⟨_, .inl (hx _ _ a)⟩⟩
        | dctT a b => exact ⟨_, rfl, .inr ⟨_, .inr ⟨_, hx _ _ a⟩⟩⟩
        | dctN a g b => cases e
        | dctF a b => cases e
      · cases e
  · cases e
def cGet (co ck cd : CE) : CE := fun s => (cv co s).bind fun o s1 => opt (o.od s1.m) fun o1 => if dctOd o1 = true then (cv ck s1).bind fun k s2 => (cv cd s2).bind fun d s3 => opt (o.od s3.m) fun oo => opt (k.od s3.m) fun kk => opt (look oo kk) fun r => match r, d with
  | some x, _ => .ok (.d x) s3
  | none, .d y => .ok (.d y) s3
  | _, _ => .bad
  else .bad
section
variable {X : Cx} {ec : EC} {W : WX}
theorem get_ok {co ck cd : CE} {σ : L2.St} {H : Hp} {Q : VK} (h : rd X.K ec W (cGet co ck cd) σ H Q) : tDGet2 (rd X.K ec W co) (rd X.K ec W ck) (rd X.K ec W cd) σ H Q := by
  obtain ⟨w, s, rfl, hr, h⟩ := h
  refine run_cv hr h fun x w1 s1 o le1 r1 ho hn h1 => ?_
  obtain ⟨o1, e1, h1⟩ := h1.opt
  split at h1
  · rename_i hd
    have ok1 := od_of r1 ho e1
    obtain ⟨a, rfl, isd⟩ := dctOd_ok r1.mem.ext ok1 hd
    refine ⟨a, rfl, isd, ?_⟩
    replace h1 : FinV X.K ec W σ Q w1 _ := FinV.le le1 h1
    refine run_cv r1 h1 fun y w2 s2 ky le2 r2 hky hn2 h2 => ?_
    replace h2 : FinV X.K ec W σ Q w2 _ := FinV.le le2 h2
    refine run_cv r2 h2 fun z w3 s3 kz le3 r3 hkz hn3 h3 => ?_
    obtain ⟨oo, e2, h3⟩ := h3.opt
    obtain ⟨kk, e3, h3⟩ := h3.opt
    obtain ⟨r, e4, h3⟩ := h3.opt
    obtain ⟨a', r', ea, g, q2⟩ := look_ok r3.mem.ext (od_of r3 (ho.le hn (le2.trans le3)) e2) (od_of r3 (hky.le hn2 le3) e3) e4
    cases ea
    refine ⟨r', g, ?_⟩
    cases r with
    | some d =>
      obtain ⟨v, rfl, rp⟩ := q2
      exact h3 v w3 le3 r3 rp .d
    | none =>
      have q2 : r' = none := q2
      subst q2
      cases kz with
      | d y' => exact h3 z w3 le3 r3 hkz .d
      | ref n => exact h3.elim
      | t _ _ => exact h3.elim
      | new c => exact h3.elim
  · exact h1.elim
theorem e_get {o e f : Expr} {co ck cd : CE} {apos cpos : Pos} (hu : X.A.units + 1 < cLine) (ho : Ex X ec W o co) (he : Ex X ec W e ck) (hf : Ex X ec W f cd) (m : M2 X o "get" apos e f cpos := by exact ⟨rfl, rfl, rfl, rfl⟩) : Ex X ec W (.Call (.Attribute o "get" apos) [e, f] [] cpos) (cGet co ck cd) :=
  (pe_dget2 hu ho he hf m).imp fun σ H Q h => get_ok h
end
/-! its value -/
def kGet4 (o k d : Rv) (s3 : S) : R Rv := opt (o.od s3.m) fun oo => opt (k.od s3.m) fun kk => opt (look oo kk) fun r => match r, d with
  | some x, _ => .ok (.d x) s3
  | none, .d y => .ok (.d y) s3
  | _, _ => .bad
def kGet3 (o k : Rv) (d : Rv) (s3 : S) : R Rv := kGet4 o k d s3
def kGet2 (cd : CE) (o : Rv) (k : Rv) (s2 : S) : R Rv := (cv cd s2).bind (kGet3 o k)
def kGet1 (ck cd : CE) (o : Rv) (s1 : S) : R Rv := opt (o.od s1.m) fun o1 => if dctOd o1 = true then (cv ck s1).bind (kGet2 cd o) else .bad
@[simp] theorem cGet_s {co ck cd : CE} {s : S} : cGet co ck cd s = (cv co s).bind (kGet1 ck cd) := Eq.trans rfl rfl
@[simp] theorem kGet2_s {cd : CE} {o k : Rv} {s2 : S} : kGet2 cd o k s2 = (cv cd s2).bind (kGet3 o k) := Eq.trans rfl rfl
@[simp] theorem kGet3_s {o k d : Rv} {s3 : S} : kGet3 o k d s3 = kGet4 o k d s3 := Eq.trans rfl rfl
@[simp] theorem kGet1_t {ck cd : CE} {n : Nat} {kvs : List (List L2.Key × D)} {s1 : S} (h : s1.m[n]? = some (.t kvs)) : kGet1 ck cd (.ref n) s1 = (cv ck s1).bind (kGet2 cd (.ref n)) := by
  unfold kGet1
  rw [od_ref, h, odC_t]
  rfl
@[simp] theorem isTagN_T {es : List (D × D)} : isTagN (tagT :: es) = false := Eq.trans rfl rfl
@[simp] theorem isTagN_k {kvs : List (L2.Key × D)} : isTagN (kvs.map fun p => (kD p.1, p.2)) = false := by
  cases kvs with
  | nil => rfl
  | cons p _ => obtain ⟨k | k, d⟩ := p <;> rfl
@[simp] theorem kGet1_d {ck cd : CE} {es : List (D × D)} {s1 : S} (h : isTagN es = false) : kGet1 ck cd (.d (.dict es)) s1 = (cv ck s1).bind (kGet2 cd (.d (.dict es))) := by
  unfold kGet1
  show (if (!isTagN es) = true then _ else _) = _
  rw [h]
  rfl
theorem kGet4_t {n : Nat} {F : List (List Int × D)} {k : List Int} {d : D} {s3 : S} (h : s3.m[n]? = some (.t (tkv F))) : kGet4 (.ref n) (.d (ldD k)) (.d d) s3 = .ok (.d ((aget F k).getD d)) s3 := by
  unfold kGet4
  rw [od_ref, h, odC_t]
  show opt (look (.c (.t (tkv F))) (.d (.tuple (k.map PyData.int)))) _ = _
  unfold look
  dsimp only
  rw [keysOf_kI]
  dsimp only
  rw [getD_tkv]
  cases aget F k <;> rfl
theorem getT_ld {k : List Int} : ∀ {F : List (List Int × D)}, getT (F.map fun p => (ldD p.1, p.2)) (kI k) = aget F k
  | [] => rfl
  | p :: F => by
    have ih := getT_ld (k := k) (F := F)
    rw [aget_cons]
    unfold getT at ih ⊢
    rw [List.map_cons, List.find?_cons]
    have e1 : keyT (ldD p.1) = some (kI p.1) := keysOf_kI p.1
    by_cases h : p.1 = k
    · rw [if_pos h]
      subst h
      simp only [e1, decide_true, Option.map_some]
    · rw [if_neg h]
      have : ¬ some (kI p.1) = some (kI k) := fun z => h (kI_inj.mp (Option.some.inj z))
      simp only [e1, this, decide_false]
      exact ih
theorem look_dT {F : List (List Int × D)} {k : List Int} : look (.d (dT F)) (.d (ldD k)) = some (aget F k) := by
  rw [dT_eq]
  show (match keysOf (k.map PyData.int) with
    | some k => some (getT (F.map fun p : List Int × D => (ldD p.1, p.2)) k)
    | none => none) = _
  rw [keysOf_kI]
  dsimp only
  rw [getT_ld]
theorem opItem_dT {F : List (List Int × D)} {k : List Int} {v : D} (h : aget F k = some v) : opItem (.d (dT F)) (.d (ldD k)) = some (.d v) := by
  unfold opItem
  rw [look_dT, h]
theorem opSumV_dT {F : List (List Int × Int)} : opSumV (.d (dT (F.map fun p => (p.1, PyData.int p.2)))) = some (.d (.int (sumW F))) := by
  rw [dT_eq]
  show ((ints? (((F.map fun p => (p.1, PyData.int p.2)).map fun p => (ldD p.1, p.2)).map (·.2))).map fun ns => Rv.d (.int ns.sum)) = _
  have : ((F.map fun p => (p.1, PyData.int p.2)).map fun p => (ldD p.1, p.2)).map (·.2) = (F.map (·.2)).map PyData.int := by
    rw [List.map_map, List.map_map, List.map_map]
    rfl
  rw [this, ints?_map]
  rfl
theorem alikeAll_ints : ∀ xs ys : List Int, PySem.W.alikeAll (xs.map .int) (ys.map .int) = true := PySem.W.alike_ints
theorem okS_ld {ks : List (List Int)} (h0 : ∀ k, k ∈ ks → k ≠ []) (hl : ks.length ≤ 100000) : okS (ks.map ldD) = true := by
  unfold okS
  rw [Bool.and_eq_true, Bool.and_eq_true, Bool.and_eq_true, Bool.and_eq_true]
  refine ⟨?_, ?_, ?_, ?_, decide_eq_true (by rw [List.length_map]; exact hl)⟩
  · clear h0 hl
    induction ks with
    | nil => rfl
    | cons k ks ih =>
      rw [List.map_cons, PyData.plainAll, ih, Bool.and_true]
      exact (plain_tup k).1
  · rw [List.all_eq_true]
    intro d hd
    rw [List.all_eq_true]
    intro d' hd'
    obtain ⟨k, _, rfl⟩ := List.mem_map.mp hd
    obtain ⟨k', _, rfl⟩ := List.mem_map.mp hd'
    show PySem.W.alike (.tuple _) (.tuple _) = true
    rw [PySem.W.alike]
    exact alikeAll_ints k k'
  · rw [Bool.or_eq_true]
    refine .inl ?_
    rw [List.all_eq_true]
    intro d hd
    obtain ⟨k, hk, rfl⟩ := List.mem_map.mp hd
    cases k with
    | nil => exact absurd rfl (h0 _ hk)
    | cons x k => rfl
  · rw [List.all_eq_true]
    intro d hd
    obtain ⟨k, _, rfl⟩ := List.mem_map.mp hd
    refine decide_eq_true ?_
    show (PyData.tuple (k.map PyData.int)).depth ≤ 50
    rw [PyData.depth, PySem.W.depth_ints]
    decide
theorem opSortedX_dT {F : List (List Int × D)} (h0 : ∀ k, k ∈ keys F → k ≠ []) (hl : F.length ≤ 100000) : opSortedX (.d (dT F)) = some (.new (.l ((sortL (keys F)).map ldD))) := by
  have e : (F.map fun p => (ldD p.1, p.2)).map (·.1) = (keys F).map ldD := by
    unfold keys
    rw [List.map_map, List.map_map]
    rfl
  rw [dT_eq]
  show (if okS ((F.map fun p => (ldD p.1, p.2)).map (·.1)) = true then some (Rv.new (.l (sortX ((F.map fun p => (ldD p.1, p.2)).map (·.1))))) else none) = _
  rw [e, if_pos (okS_ld h0 (by unfold keys; rw [List.length_map]; exact hl)), sortX_ld]
theorem ciKeyT_dT {F : List (List Int × D)} {c : CE} {s s1 : S} (h : c s = .ok (.d (dT F)) s1) : ciKeyT c s = .ok ((keys F).map ldD) s1 := by
  unfold ciKeyT cv
  rw [h, dT_eq]
  show R.ok ((F.map fun p => (ldD p.1, p.2)).map (·.1)) s1 = _
  unfold keys
  rw [List.map_map, List.map_map]
  rfl
theorem putIn_t {F : List (List Int × D)} {k : List Int} {v : D} (h : F.length < 16000000) : putIn (.t (tkv F)) (ldD k) v = some (.t (tkv (aput F k v))) := by
  show (match keysOf (k.map PyData.int) with
    | some k => if (tkv F).length < 16000000 then some (Cell.t (putD (tkv F) k v)) else none
    | none => none) = _
  rw [keysOf_kI]
  dsimp only
  rw [if_pos (by unfold tkv; rw [List.length_map]; exact h), putD_tkv]
theorem cLk_t {c : CE} {s s1 : S} {F : List (List Int × D)} (h : c s = .ok (.new (.t (tkv F))) s1) : cLk c s = .ok (.d (dT F)) s1 := by
  unfold cLk
  rw [h]
  rfl
end Vm
namespace Vm
open PySem L2 PySem.Spec PyProof.Rows
/-! ### the memory of a dict of lists -/
def gi : Nat → List (List Int × List D) → List Cell
  | _, [] => []
  | j, p :: G => .i 0 j p.2 :: gi (j + 1) G
def gm (G : List (List Int × List D)) : List Cell := .r ((keys G).map kI) :: gi 0 G
theorem gi_len : ∀ (G : List (List Int × List D)) (j : Nat), (gi j G).length = G.length
  | [], _ => rfl
  | p :: G, j => congrArg (· + 1) (gi_len G (j + 1))
theorem gi_app : ∀ (G G' : List (List Int × List D)) (j : Nat), gi j (G ++ G') = gi j G ++ gi (j + G.length) G'
  | [], _, j => rfl
  | p :: G, G', j => by
    show _ :: gi (j + 1) (G ++ G') = _ :: (gi (j + 1) G ++ gi (j + (G.length + 1)) G')
    rw [gi_app G G' (j + 1), show j + 1 + G.length = j + (G.length + 1) by omega]
theorem gi_get : ∀ (G : List (List Int × List D)) (j i : Nat) (p : List Int × List D), G[i]? = some p → (gi j G)[i]? = some (.i 0 (j + i) p.2)
  | q :: G, j, 0, p, h => by
    cases h
    rfl
  | q :: G, j, i + 1, p, h => by
    show (gi (j + 1) G)[i]? = _
    rw [gi_get G (j + 1) i p (by simpa using h), show j + 1 + i = j + (i + 1) by omega]
theorem gi_set : ∀ (G : List (List Int × List D)) (j i : Nat) (k : List Int) (l : List D), (gi j G).set i (.i 0 (j + i) l) = gi j (G.set i (k, l))
  | [], j, i, k, l => rfl
  | q :: G, j, 0, k, l => rfl
  | q :: G, j, i + 1, k, l => by
    show Cell.i 0 j q.2 :: (gi (j + 1) G).set i (.i 0 (j + (i + 1)) l) = Cell.i 0 j q.2 :: gi (j + 1) (G.set i (k, l))
    rw [show j + (i + 1) = j + 1 + i by omega, gi_set G (j + 1) i k l]
theorem ix_some {k : List Int} : ∀ {G : List (List Int × List D)} {j : Nat}, (keys G).Nodup → ixK ((keys G).map kI) (kI k) = some j → ∃ l, G[j]? = some (k, l) ∧ aget G k = some l ∧ ∀ v, aput G k v = G.set j (k, v)
  | [], j, hn, h => by cases h
  | p :: G, j, hn, h => by
    have hn : (p.1 :: keys G).Nodup := hn
    rw [List.nodup_cons] at hn
    have h : (if kI p.1 = kI k then some 0 else (ixK ((keys G).map kI) (kI k)).map (· + 1)) = some j := h
    split at h
    · rename_i e
      have e := kI_inj.mp e
      cases h
      subst e
      refine ⟨p.2, rfl, by rw [aget_cons, if_pos rfl], fun v => ?_⟩
      rw [aput_old (List.mem_cons_self ..), List.map_cons, if_pos rfl]
      show (p.1, v) :: G.map _ = (p.1, v) :: G
      congr 1
      conv => rhs; rw [← List.map_id G]
      apply List.map_congr_left
      intro q hq
      have : q.1 ≠ p.1 := fun z => hn.1 (z ▸ List.mem_map_of_mem (f := (·.1)) hq)
      rw [if_neg this]
      rfl
    · rename_i e
      have e : ¬ p.1 = k := fun z => e (kI_inj.mpr z)
      obtain ⟨j', h1, rfl⟩ := Option.map_eq_some_iff.mp h
      obtain ⟨l, h2, h3, h4⟩ := ix_some hn.2 h1
      have hk : k ∈ keys G := aget_isSome.mp (by rw [h3]; rfl)
      refine ⟨l, by simpa using h2, by rw [aget_cons, if_neg e]; exact h3, fun v => ?_⟩
      have := h4 v
      rw [aput_old hk] at this
      rw [aput_old (List.mem_cons_of_mem _ hk), List.map_cons, if_neg e, this]
      rfl
theorem ix_none {k : List Int} : ∀ {G : List (List Int × List D)}, ixK ((keys G).map kI) (kI k) = none → k ∉ keys G
  | [], h => fun z => nomatch z
  | p :: G, h => by
    have h : (if kI p.1 = kI k then some 0 else (ixK ((keys G).map kI) (kI k)).map (· + 1)) = none := h
    split at h
    · cases h
    · rename_i e
      intro z
      rcases List.mem_cons.mp z with z | z
      · exact e (kI_inj.mpr z.symm)
      · exact ix_none (Option.map_eq_none_iff.mp h) z
theorem setd_app {i : Nat} {v : List Sl} {G : List (List Int × List D)} {k : List Int} {d : D} {ck : CE} {ca : CA} (hi : v[i]? = some (.c 0)) (hn : (keys G).Nodup) (hG : G.length < 16000000) (hl : ∀ l, aget G k = some l → l.length < 16000000)
    (hk : ck ⟨v, gm G⟩ = .ok (.d (ldD k)) ⟨v, gm G⟩) (ha : ∀ m, ca ⟨v, m⟩ = .ok [d] ⟨v, m⟩) : cAppI (cSetd (cVar i) ck) ca ⟨v, gm G⟩ = .ok (.d .none) ⟨v, gm (pushK G (k, d))⟩ := by
  have e1 : cSetd (cVar i) ck ⟨v, gm G⟩ = match ixK ((keys G).map kI) (kI k) with
      | some j => .ok (.ref (0 + 1 + j)) ⟨v, gm G⟩
      | none => .ok (.ref (G.length + 1)) ⟨v, gm (G ++ [(k, [])])⟩ := by
    unfold cSetd cv
    have ev : cVar i ⟨v, gm G⟩ = .ok (.ref 0) ⟨v, gm G⟩ := by
      unfold cVar
      dsimp only
      rw [hi]
    rw [ev]
    show (R.bind (R.bind (ck ⟨v, gm G⟩) _) _) = _
    rw [hk]
    show (match keysOf (k.map PyData.int) with
      | some k => _
      | none => _) = _
    rw [keysOf_kI]
    show (if ((keys G).map kI).length < 16000000 then _ else _) = _
    rw [if_pos (by rw [List.length_map]; unfold keys; rw [List.length_map]; exact hG)]
    cases e : ixK ((keys G).map kI) (kI k) with
    | some j =>
      obtain ⟨l, h1, h2, h3⟩ := ix_some hn e
      have : (gm G)[0 + 1 + j]? = some (.i 0 j l) := by
        rw [show 0 + 1 + j = j + 1 by omega]
        show (gi 0 G)[j]? = _
        rw [gi_get G 0 j _ h1, Nat.zero_add]
      dsimp only
      rw [this]
      show (if 0 = 0 ∧ j = j then _ else _) = _
      rw [if_pos ⟨rfl, rfl⟩]
    | none =>
      have hk := ix_none e
      show R.ok (Rv.ref (gm G).length) ⟨v, (gm G).set 0 (.r ((keys G).map kI ++ [kI k])) ++ [.i 0 ((keys G).map kI).length []]⟩ = _
      have a1 : (gm G).length = G.length + 1 := by
        show (gi 0 G).length + 1 = _
        rw [gi_len]
      have a2 : (gm G).set 0 (.r ((keys G).map kI ++ [kI k])) ++ [.i 0 ((keys G).map kI).length []] = gm (G ++ [(k, [])]) := by
        show Cell.r _ :: (gi 0 G ++ _) = Cell.r ((keys (G ++ [(k, [])])).map kI) :: gi 0 (G ++ [(k, [])])
        rw [gi_app]
        unfold keys
        rw [List.map_append, List.map_append, List.length_map, List.length_map, Nat.zero_add]
        rfl
      rw [a1, a2]
  unfold cAppI cv
  rw [e1]
  cases e : ixK ((keys G).map kI) (kI k) with
  | some j =>
    obtain ⟨l, h1, h2, h3⟩ := ix_some hn e
    have eg : (gm G)[0 + 1 + j]? = some (.i 0 j l) := by
      rw [show 0 + 1 + j = j + 1 by omega]
      show (gi 0 G)[j]? = _
      rw [gi_get G 0 j _ h1, Nat.zero_add]
    show (match (gm G)[0 + 1 + j]? with
      | some (.i _ _ _) => _
      | _ => _) = _
    rw [eg]
    dsimp only
    rw [ha]
    show (match (gm G)[0 + 1 + j]? with
      | some (.i n j xs) => _
      | _ => _) = _
    rw [eg]
    show (match (if l.length < 16000000 then some (PyData.none, l ++ [d]) else none) with
      | some (d, ys) => _
      | none => _) = _
    rw [if_pos (hl l h2)]
    show R.ok _ ⟨v, (gm G).set (0 + 1 + j) (.i 0 j (l ++ [d]))⟩ = _
    congr 2
    rw [show 0 + 1 + j = j + 1 by omega]
    show Cell.r _ :: (gi 0 G).set j (.i 0 j (l ++ [d])) = _
    have := gi_set G 0 j k (l ++ [d])
    rw [Nat.zero_add] at this
    rw [this]
    unfold pushK
    rw [h2]
    show _ = gm (aput G k (l ++ [d]))
    rw [h3]
    unfold gm
    congr 2
    rw [← h3, keys_aput, if_pos (aget_isSome.mp (by rw [h2]; rfl))]
  | none =>
    have hk := ix_none e
    have eg : (gm (G ++ [(k, [])]))[G.length + 1]? = some (.i 0 G.length []) := by
      show (gi 0 (G ++ [(k, [])]))[G.length]? = _
      rw [gi_get _ 0 G.length (k, []) (by simp), Nat.zero_add]
    show (match (gm (G ++ [(k, [])]))[G.length + 1]? with
      | some (.i _ _ _) => _
      | _ => _) = _
    rw [eg]
    dsimp only
    rw [ha]
    show (match (gm (G ++ [(k, [])]))[G.length + 1]? with
      | some (.i n j xs) => _
      | _ => _) = _
    rw [eg]
    show R.ok _ ⟨v, (gm (G ++ [(k, [])])).set (G.length + 1) (.i 0 G.length [d])⟩ = _
    congr 2
    show Cell.r _ :: (gi 0 (G ++ [(k, [])])).set G.length (.i 0 G.length [d]) = _
    have := gi_set (G ++ [(k, [])]) 0 G.length k [d]
    rw [Nat.zero_add] at this
    rw [this]
    unfold pushK
    rw [aget_none hk, aput_new hk]
    show Cell.r _ :: gi 0 _ = gm (G ++ [(k, [d])])
    unfold gm keys
    rw [List.set_append_right _ _ (Nat.le_refl _), Nat.sub_self]
    simp only [List.map_append, List.set_cons_zero, List.map_cons, List.map_nil]
theorem colI_gm : ∀ (G : List (List Int × List D)) (pre : List Cell) (j : Nat), pre.length = j + 1 → colI (pre ++ gi j G) 0 j G.length = some (G.map (·.2))
  | [], pre, j, h => rfl
  | p :: G, pre, j, h => by
    show (match (pre ++ (Cell.i 0 j p.2 :: gi (j + 1) G))[0 + 1 + j]? with
      | some (.i n' j' ds) => if n' = 0 ∧ j' = j then (colI (pre ++ (Cell.i 0 j p.2 :: gi (j + 1) G)) 0 (j + 1) G.length).map (ds :: ·) else none
      | _ => none) = _
    have e : (pre ++ (Cell.i 0 j p.2 :: gi (j + 1) G))[0 + 1 + j]? = some (.i 0 j p.2) := by
      rw [List.getElem?_append_right (by omega), show 0 + 1 + j - pre.length = 0 by omega]
      rfl
    rw [e]
    show (if 0 = 0 ∧ j = j then (colI (pre ++ (Cell.i 0 j p.2 :: gi (j + 1) G)) 0 (j + 1) G.length).map (p.2 :: ·) else none) = _
    rw [if_pos ⟨rfl, rfl⟩]
    have := colI_gm G (pre ++ [.i 0 j p.2]) (j + 1) (by rw [List.length_append, h]; rfl)
    rw [List.append_assoc] at this
    have e2 : pre ++ (Cell.i 0 j p.2 :: gi (j + 1) G) = pre ++ ([Cell.i 0 j p.2] ++ gi (j + 1) G) := rfl
    rw [e2, this]
    rfl
def lsD (G : List (List Int × List D)) : List (List Int × D) := G.map fun p => (p.1, .list p.2)
theorem cFzR_gm {i : Nat} {v : List Sl} {G : List (List Int × List D)} (hi : v[i]? = some (.c 0)) : ∃ m, cFzR i ⟨v, gm G⟩ = .ok (.d (dT (lsD G))) ⟨v.set i (.d (dT (lsD G))), m⟩ := by
  have ec : colI (gm G) 0 0 ((keys G).map kI).length = some (G.map (·.2)) := by
    have := colI_gm G [.r ((keys G).map kI)] 0 rfl
    rw [List.length_map]
    unfold keys
    rw [List.length_map]
    exact this
  have ed : ((keys G).map kI).zip ((G.map (·.2)).map PyData.list) = tkv (lsD G) := by
    unfold keys tkv lsD
    rw [List.map_map, List.map_map, List.map_map, List.zip_map']
    rfl
  refine ⟨(goneI (gm G) 0 0 ((keys G).map kI).length).set 0 .gone, ?_⟩
  unfold cFzR
  dsimp only
  rw [hi]
  show (match colI (gm G) 0 0 ((keys G).map kI).length with
    | some lss => _
    | none => _) = _
  rw [ec]
  show R.ok (Rv.d (tD (((keys G).map kI).zip ((G.map (·.2)).map PyData.list)))) _ = _
  rw [ed]
  rfl
end Vm
namespace Vm
open PySem L2 PySem.Spec PyProof.Rows
/-! ### shares of a common bottom -/
theorem tell_tight {j K : Nat} {d : D} {a N : Int} (h : Tell j d ((a : Rat) / N)) (hN : 1 ≤ N) (ba : Bs K a) (bN : Bs K N) (hK : 1 ≤ K) : Tell K d ((a : Rat) / N) := by
  obtain ⟨p, q, rfl, s, r⟩ := h.ex
  refine ⟨p, q, rfl, ?_, r⟩
  have hN' := rat_ne hN
  have e : p * N = a * q := by
    rw [← Rat.intCast_inj, Rat.intCast_mul, Rat.intCast_mul, r]
    grind
  have hq := s.pos
  have cop : Int.gcd q p = 1 := by rw [Int.gcd_comm]; exact s.cop
  have d1 : q ∣ N := by
    have : q ∣ p * N := ⟨a, by rw [e, Int.mul_comm]⟩
    exact cop_dvd this cop
  have d2 : p ∣ a := by
    have : p ∣ q * a := ⟨N, by rw [Int.mul_comm]; exact e.symm⟩
    exact cop_dvd this s.cop
  refine ⟨hq, s.cop, ?_, bN.le ?_⟩
  · by_cases h0 : a = 0
    · have : p = 0 := by
        rw [h0, Int.zero_mul] at e
        rcases Int.mul_eq_zero.mp e with z | z
        · exact z
        · omega
      rw [this]
      exact Nat.pow_pos (by decide)
    · exact ba.le (Nat.le_of_dvd (by omega) (Int.natAbs_dvd_natAbs.mpr d2))
  · exact Nat.le_of_dvd (by omega) (Int.natAbs_dvd_natAbs.mpr d1)
theorem take_sum_le : ∀ {as : List Int} {i : Nat}, (∀ a, a ∈ as → 0 ≤ a) → 0 ≤ (as.take i).sum ∧ (as.take i).sum ≤ as.sum
  | [], i, _ => by simp
  | a :: as, 0, h => by
    have := sum_nonneg h
    simp at this ⊢
    exact this
  | a :: as, i + 1, h => by
    obtain ⟨h1, h2⟩ := take_sum_le (as := as) (i := i) fun x hx => h x (List.mem_cons_of_mem _ hx)
    have := h a (List.mem_cons_self ..)
    rw [List.take_succ_cons, List.sum_cons, List.sum_cons]
    omega
theorem bs_between {K : Nat} {a b : Int} (h0 : 0 ≤ a) (h : a ≤ b) (hb : Bs K b) : Bs K a := hb.le (by omega)
/-- the total of shares over one bottom -/
theorem total_c {K : Nat} {N : Int} (hN : 1 ≤ N) (bN : Bs K N) (hK1 : 1 ≤ K) (hK : K ≤ 3900) : ∀ (ds : List D) (as : List Int) (hl : ds.length = as.length), (∀ (i : Nat) (d : D) (a : Int), ds[i]? = some d → as[i]? = some a → Tell K d ((a : Rat) / N)) → (∀ a, a ∈ as → 0 ≤ a) → Bs K as.sum →
    ∃ d, fTotal [.d (.list ds)] [] = .ok (.d d) [] ∧ Tell K d ((as.sum : Rat) / N) := by
  intro ds as hl h h0 hb
  have hN' := rat_ne hN
  obtain ⟨s', e, a, x2, y, rfl, ha, hy⟩ := forL_inv (tg := tgN 2) (body := cSet 1 (cCallP fPlus (lCons (cVar 1) (lCons (cVar 2) lNil)))) (ds := ds) (fun i s => ∃ a x2 y, s = ⟨[.d (.list ds), .d a, x2], []⟩ ∧ Tell K a y ∧ y = (((as.take i).sum : Int) : Rat) / N) (s := ⟨[.d (.list ds), .d (shD 0 1), .u], []⟩) ⟨_, _, 0, rfl, tell_none.mono hK1, by rw [List.take_zero, List.sum_nil]; grind⟩ fun i s d hd hi => by
    obtain ⟨a, x2, y, rfl, ha, hy⟩ := hi
    have hi := (List.getElem?_eq_some_iff.mp hd).1
    have hx : as[i]? = some as[i] := List.getElem?_eq_getElem (by omega)
    obtain ⟨b, e, hb'⟩ := plus_t ha (h i d _ hd hx) (by omega)
    have ey : y + (as[i] : Rat) / N = (((as.take (i + 1)).sum : Int) : Rat) / N := by
      rw [hy, sum_take (by omega), Rat.intCast_add]
      grind
    obtain ⟨t0, t1⟩ := take_sum_le (i := i + 1) h0
    rw [ey] at hb'
    refine ⟨_, ⟨[.d (.list ds), .d b, .d d], []⟩, rfl, .inl ?_, b, _, _, rfl, tell_tight hb' hN (bs_between t0 t1 hb) bN hK1, rfl⟩
    simp [e]
  refine ⟨a, ?_, ?_⟩
  · unfold fTotal
    rw [runF_s]
    have z : PyData.tuple [PyData.int 0, PyData.int 1] = shD 0 1 := rfl
    simp [cTotal, z, e]
  · rw [hl, List.take_length] at hy
    exact hy ▸ ha
/-! ### spreads -/
def rowD (k : List Int) (d : D) : D := .tuple [ldD k, d]
/-- the rows ds are the spread of the weights F -/
def Spr (K : Nat) (F : List (List Int × Int)) (ds : List D) : Prop := ∃ g : List Int → D, ds = (sortL (keys F)).map (fun k => rowD k (g k)) ∧ ∀ k, k ∈ keys F → Tell K (g k) ((wt F k : Rat) / (sumW F : Int))
theorem Spr.one {K K' : Nat} {F F' : List (List Int × Int)} {ds ds' : List D} (h : Spr K F ds) (h' : Spr K' F' ds') (n : (keys F).Nodup) (n' : (keys F').Nodup) (hk : ∀ k, k ∈ keys F ↔ k ∈ keys F') (hw : ∀ k, k ∈ keys F → (wt F k : Rat) / (sumW F : Int) = (wt F' k : Rat) / (sumW F' : Int)) : ds = ds' := by
  obtain ⟨g, rfl, t⟩ := h
  obtain ⟨g', rfl, t'⟩ := h'
  rw [← sortL_set n n' hk]
  apply List.map_congr_left
  intro k hk'
  have hk' := sortL_mem.mp hk'
  unfold rowD
  rw [(t k hk').one ((t' k ((hk k).mp hk')).to (hw k hk').symm)]
theorem Spr.congr {K : Nat} {F F' : List (List Int × Int)} {ds : List D} (h : Spr K F ds) (n : (keys F).Nodup) (n' : (keys F').Nodup) (hk : ∀ k, k ∈ keys F ↔ k ∈ keys F') (hw : ∀ k, wt F k = wt F' k) (hs : sumW F = sumW F') : Spr K F' ds := by
  obtain ⟨g, rfl, t⟩ := h
  refine ⟨g, by rw [sortL_set n n' hk], fun k hk' => ?_⟩
  rw [← hw, ← hs]
  exact t k ((hk k).mpr hk')
def fiD (F : List (List Int × Int)) : List (List Int × D) := F.map fun p => (p.1, PyData.int p.2)
theorem keys_fiD {F : List (List Int × Int)} : keys (fiD F) = keys F := by
  unfold keys fiD
  rw [List.map_map]
  rfl
theorem aget_fiD {k : List Int} : ∀ {F : List (List Int × Int)}, aget (fiD F) k = (aget F k).map PyData.int
  | [] => rfl
  | p :: F => by
    show aget ((p.1, PyData.int p.2) :: fiD F) k = _
    rw [aget_cons, aget_cons, aget_fiD]
    split <;> rfl
theorem aget_wt {F : List (List Int × Int)} {k : List Int} (h : k ∈ keys F) : aget F k = some (wt F k) := by
  obtain ⟨v, hv⟩ := Option.isSome_iff_exists.mp (aget_isSome.mpr h)
  unfold wt
  rw [hv]
  rfl
def cLawSpr : CS :=
 (cSeq (cSet 1 (cOp1 opSumV (cVar 0)))
 (cRet (cLc [2] (ciSeq (cOp1 opSortedX (cVar 0))) (tgN 2) ctYes (cTup (cCons (cVar 2) (cCons (cCallP fLawLowest (lCons (cOp2 opItem (cVar 0) (cVar 2)) (lCons (cVar 1) lNil))) cNil))))))
def fLawSpr : Fn := runF 3 cLawSpr
structure WOk (K : Nat) (F : List (List Int × Int)) : Prop where
  nd : (keys F).Nodup
  ne : ∀ k, k ∈ keys F → k ≠ []
  len : F.length ≤ 100000
  pos : ∀ k, k ∈ keys F → 0 ≤ wt F k
  bw : ∀ k, k ∈ keys F → Bs K (wt F k)
  s1 : 1 ≤ sumW F
  bs : Bs K (sumW F)
theorem lawSpr_ok {K : Nat} {F : List (List Int × Int)} (h : WOk K F) (hK : K ≤ 8900) : ∃ ds, fLawSpr [.d (dT (fiD F))] [] = .ok (.new (.l ds)) [] ∧ Spr K F ds := by
  have low : ∀ k, k ∈ keys F → ∃ d, fLawLowest [.d (.int (wt F k)), .d (.int (sumW F))] [] = .ok (.d d) [] ∧ Tell K d ((wt F k : Rat) / (sumW F : Int)) := fun k hk => by
    obtain ⟨p, q, e, s, r⟩ := lowest_ok (h.pos k hk) h.s1 (h.bw k hk) h.bs hK
    rw [Nat.max_self] at s
    refine ⟨_, e, p, q, rfl, s, ?_⟩
    have := rat_ne h.s1
    have r' : (p : Rat) * (sumW F : Int) = (wt F k : Int) * (q : Int) := by
      rw [← Rat.intCast_mul, ← Rat.intCast_mul, r]
    grind
  classical
  let g : List Int → D := fun k => if hk : k ∈ keys F then (low k hk).choose else .none
  have hg : ∀ k, k ∈ keys F → fLawLowest [.d (.int (wt F k)), .d (.int (sumW F))] [] = .ok (.d (g k)) [] ∧ Tell K (g k) ((wt F k : Rat) / (sumW F : Int)) := fun k hk => by
    have : g k = (low k hk).choose := dif_pos hk
    rw [this]
    exact (low k hk).choose_spec
  refine ⟨(sortL (keys F)).map fun k => rowD k (g k), ?_, g, rfl, fun k hk => (hg k hk).2⟩
  generalize g = g at hg
  have kl : (sortL (keys F)).length ≤ 100000 := by rw [sortL_len]; unfold keys; rw [List.length_map]; exact h.len
  have i0 : ciSeq (cOp1 opSortedX (cVar 0)) ⟨[.d (dT (fiD F)), .d (.int (sumW F)), .u], []⟩ = .ok ((sortL (keys F)).map ldD) ⟨[.d (dT (fiD F)), .d (.int (sumW F)), .u], []⟩ := by
    have := opSortedX_dT (F := fiD F) (by rw [keys_fiD]; exact h.ne) (by unfold fiD; rw [List.length_map]; exact h.len)
    rw [keys_fiD] at this
    simp [this]
  have lc := lc_for (own := [2]) (tg := tgN 2) (el := cTup (cCons (cVar 2) (cCons (cCallP fLawLowest (lCons (cOp2 opItem (cVar 0) (cVar 2)) (lCons (cVar 1) lNil))) cNil))) (F := ldD) (fun k => rowD k (g k)) i0 (by omega) fun k hk => by
    have hk := sortL_mem.mp hk
    have e1 : opItem (.d (dT (fiD F))) (.d (ldD k)) = some (.d (.int (wt F k))) := opItem_dT (by rw [aget_fiD, aget_wt hk]; rfl)
    refine ⟨⟨[.d (dT (fiD F)), .d (.int (sumW F)), .d (ldD k)], []⟩, rfl, [.d (dT (fiD F)), .d (.int (sumW F)), .d (ldD k)], ?_⟩
    simp [e1, (hg k hk).1]
    rfl
  have es : opSumV (.d (dT (fiD F))) = some (.d (.int (sumW F))) := opSumV_dT
  unfold fLawSpr
  apply Ok.eq
  apply run_ok
  refine st (by simp [cLawSpr, es]; exact .rfl) ?_
  refine w_ret (by simp [lc]; exact .rfl) ?_
  exact ok_new ⟨rfl, rfl⟩
/-! ### gathered -/
def cGathered : CS :=
 (cRet (cLc [1] (ciSeq (cOp1 opSortedX (cVar 0))) (tgN 1) ctYes (cTup (cCons (cVar 1) (cCons (cCallP fTotal (lCons (cOp2 opItem (cVar 0) (cVar 1)) lNil)) cNil)))))
def fGathered : Fn := runF 2 cGathered
theorem keys_lsD {G : List (List Int × List D)} : keys (lsD G) = keys G := by
  unfold keys lsD
  rw [List.map_map]
  rfl
theorem aget_lsD {k : List Int} : ∀ {G : List (List Int × List D)}, aget (lsD G) k = (aget G k).map PyData.list
  | [] => rfl
  | p :: G => by
    show aget ((p.1, PyData.list p.2) :: lsD G) k = _
    rw [aget_cons, aget_cons, aget_lsD]
    split <;> rfl
/-- the events' parts are the amounts over N -/
def EvR (K : Nat) (N : Int) (E : List (List Int × D)) (A : List (List Int × Int)) : Prop := Paired (fun (e : List Int × D) (a : List Int × Int) => e.1 = a.1 ∧ Tell K e.2 ((a.2 : Rat) / N) ∧ 0 ≤ a.2) E A
def evA (A : List (List Int × Int)) (t : List Int) : List Int := (A.filter fun e => decide (e.1 = t)).map (·.2)
theorem evA_sum {A : List (List Int × Int)} {t : List Int} : (evA A t).sum = evW A t := by
  unfold evA evW
  induction A with
  | nil => rfl
  | cons a A ih =>
    rw [List.filter_cons, List.map_cons, List.sum_cons]
    by_cases h : a.1 = t
    · rw [if_pos (by simpa using h), if_pos h, List.map_cons, List.sum_cons, ih]
    · rw [if_neg (by simpa using h), if_neg h, ih, Int.zero_add]
theorem EvR.at {K : Nat} {N : Int} {t : List Int} : ∀ {E : List (List Int × D)} {A : List (List Int × Int)}, EvR K N E A → (evD E t).length = (evA A t).length ∧ (∀ (i : Nat) (d : D) (a : Int), (evD E t)[i]? = some d → (evA A t)[i]? = some a → Tell K d ((a : Rat) / N)) ∧ (∀ a, a ∈ evA A t → 0 ≤ a) ∧ (t ∈ keys E ↔ t ∈ keys A)
  | _, _, .nil => ⟨rfl, fun i d a h => by simp [evD] at h, fun a h => by simp [evA] at h, by simp [keys]⟩
  | e :: E, a :: A, .cons r q => by
    obtain ⟨h1, h2, h3, h4⟩ := EvR.at (t := t) q
    obtain ⟨r1, r2, r3⟩ := r
    have hk : t ∈ keys (e :: E) ↔ t ∈ keys (a :: A) := by
      show t ∈ e.1 :: keys E ↔ t ∈ a.1 :: keys A
      rw [List.mem_cons, List.mem_cons, h4, r1]
    unfold evD evA at *
    rw [List.filter_cons, List.filter_cons]
    by_cases h : a.1 = t
    · rw [if_pos (by simpa using r1.trans h), if_pos (by simpa using h), List.map_cons, List.map_cons]
      refine ⟨by rw [List.length_cons, List.length_cons, h1], fun i d x e1 e2 => ?_, fun x hx => ?_, hk⟩
      · cases i with
        | zero =>
          cases e1
          cases e2
          exact r2
        | succ i => exact h2 i d x (by simpa using e1) (by simpa using e2)
      · rcases List.mem_cons.mp hx with rfl | hx
        · exact r3
        · exact h3 x hx
    · rw [if_neg (by simpa using fun z => h (r1.symm.trans z)), if_neg (by simpa using h)]
      exact ⟨h1, h2, h3, hk⟩
theorem EvR.pos {K : Nat} {N : Int} : ∀ {E : List (List Int × D)} {A : List (List Int × Int)}, EvR K N E A → ∀ a, a ∈ A → 0 ≤ a.2
  | _, _, .nil, a, h => nomatch h
  | _, _, .cons r q, a, h => by
    rcases List.mem_cons.mp h with rfl | h
    · exact r.2.2
    · exact EvR.pos q a h
theorem evW_le {A : List (List Int × Int)} (h : ∀ a, a ∈ A → 0 ≤ a.2) (t : List Int) : 0 ≤ evW A t ∧ evW A t ≤ sumW A := by
  unfold evW sumW
  induction A with
  | nil => exact ⟨Int.le_refl _, Int.le_refl _⟩
  | cons a A ih =>
    obtain ⟨h1, h2⟩ := ih fun x hx => h x (List.mem_cons_of_mem _ hx)
    have := h a (List.mem_cons_self ..)
    rw [List.map_cons, List.map_cons, List.sum_cons, List.sum_cons]
    split <;> omega
theorem gathered_ok {K : Nat} {E : List (List Int × D)} {A : List (List Int × Int)} (h : EvR K (sumW A) E A) (h1 : 1 ≤ sumW A) (hb : Bs K (sumW A)) (hK1 : 1 ≤ K) (hK : K ≤ 3900) (hne : ∀ k, k ∈ keys A → k ≠ []) (hl : E.length ≤ 100000) :
    ∃ ds, fGathered [.d (dT (lsD (grp E)))] [] = .ok (.new (.l ds)) [] ∧ Spr K (accL A) ds := by
  have tot : ∀ k, k ∈ keys (grp E) → ∃ d, fTotal [.d (.list (evD E k))] [] = .ok (.d d) [] ∧ Tell K d ((wt (accL A) k : Rat) / (sumW (accL A) : Int)) := fun k hk => by
    obtain ⟨a1, a2, a3, _⟩ := h.at (t := k)
    obtain ⟨b1, b2⟩ := evW_le h.pos k
    have := total_c h1 hb hK1 hK _ _ a1 a2 a3 (by rw [evA_sum]; exact bs_between b1 b2 hb)
    rw [evA_sum, ← accL_wt, ← accL_sum] at this
    exact this
  classical
  let g : List Int → D := fun k => if hk : k ∈ keys (grp E) then (tot k hk).choose else .none
  have hg : ∀ k, k ∈ keys (grp E) → fTotal [.d (.list (evD E k))] [] = .ok (.d (g k)) [] ∧ Tell K (g k) ((wt (accL A) k : Rat) / (sumW (accL A) : Int)) := fun k hk => by
    have : g k = (tot k hk).choose := dif_pos hk
    rw [this]
    exact (tot k hk).choose_spec
  generalize g = g at hg
  have hkk : ∀ k, k ∈ keys (grp E) ↔ k ∈ keys (accL A) := fun k => by rw [grp_keys, accL_keys]; exact (h.at (t := k)).2.2.2
  have gl : (grp E).length ≤ 100000 := by
    have : ∀ (E : List (List Int × D)) (G : List (List Int × List D)), (E.foldl pushK G).length ≤ G.length + E.length := by
      intro E
      induction E with
      | nil => intro G; exact Nat.le_refl _
      | cons e E ih =>
        intro G
        have h1 := ih (pushK G e)
        have h2 : (pushK G e).length ≤ G.length + 1 := by
          unfold pushK aput
          split
          · rw [List.length_map]; omega
          · rw [List.length_append]; exact Nat.le_refl _
        show (E.foldl pushK (pushK G e)).length ≤ _
        rw [List.length_cons]
        omega
    have := this E []
    unfold grp
    rw [List.length_nil] at this
    omega
  refine ⟨(sortL (keys (grp E))).map fun k => rowD k (g k), ?_, g, by rw [sortL_set (grp_nodup E) (accL_nodup A) hkk], fun k hk => (hg k ((hkk k).mpr hk)).2⟩
  have kl : (sortL (keys (grp E))).length ≤ 100000 := by rw [sortL_len]; unfold keys; rw [List.length_map]; exact gl
  have i0 : ciSeq (cOp1 opSortedX (cVar 0)) ⟨[.d (dT (lsD (grp E))), .u], []⟩ = .ok ((sortL (keys (grp E))).map ldD) ⟨[.d (dT (lsD (grp E))), .u], []⟩ := by
    have := opSortedX_dT (F := lsD (grp E)) (by rw [keys_lsD]; exact fun k hk => hne k (accL_keys.mp ((hkk k).mp hk))) (by unfold lsD; rw [List.length_map]; exact gl)
    rw [keys_lsD] at this
    simp [this]
  have lc := lc_for (own := [1]) (tg := tgN 1) (el := cTup (cCons (cVar 1) (cCons (cCallP fTotal (lCons (cOp2 opItem (cVar 0) (cVar 1)) lNil)) cNil))) (F := ldD) (fun k => rowD k (g k)) i0 (by omega) fun k hk => by
    have hk := sortL_mem.mp hk
    have e1 : opItem (.d (dT (lsD (grp E)))) (.d (ldD k)) = some (.d (.list (evD E k))) := opItem_dT (by rw [aget_lsD, grp_get (grp_keys.mp hk)]; rfl)
    refine ⟨⟨[.d (dT (lsD (grp E))), .d (ldD k)], []⟩, rfl, [.d (dT (lsD (grp E))), .d (ldD k)], ?_⟩
    simp [e1, (hg k hk).1]
    rfl
  unfold fGathered
  apply Ok.eq
  apply run_ok
  unfold cGathered
  refine w_ret (by simp [lc]; exact .rfl) ?_
  exact ok_new ⟨rfl, rfl⟩
end Vm
namespace Vm
open PySem L2 PySem.Spec PyProof.Rows
theorem grp_len (E : List (List Int × D)) : (grp E).length ≤ E.length := by
  have : ∀ (E : List (List Int × D)) (G : List (List Int × List D)), (E.foldl pushK G).length ≤ G.length + E.length := by
    intro E
    induction E with
    | nil => intro G; exact Nat.le_refl _
    | cons e E ih =>
      intro G
      have h1 := ih (pushK G e)
      have h2 : (pushK G e).length ≤ G.length + 1 := by
        unfold pushK aput
        split
        · rw [List.length_map]; omega
        · rw [List.length_append]; exact Nat.le_refl _
      show (E.foldl pushK (pushK G e)).length ≤ _
      rw [List.length_cons]
      omega
  have := this E []
  rw [List.length_nil] at this
  unfold grp
  omega
theorem grp_ll {E : List (List Int × D)} {k : List Int} {l : List D} (h : aget (grp E) k = some l) : l.length ≤ E.length := by
  have hk : k ∈ keys E := grp_keys.mp (aget_isSome.mp (by rw [h]; rfl))
  rw [grp_get hk] at h
  cases h
  unfold evD
  rw [List.length_map]
  exact List.length_filter_le _ _
theorem grp_snoc {E : List (List Int × D)} {e : List Int × D} : grp (E ++ [e]) = pushK (grp E) e := by
  unfold grp
  rw [List.foldl_append]
  rfl
theorem enumD_at : ∀ (ds : List D) (k j : Nat) (d : D), (enumD k ds)[j]? = some d → ∃ x, ds[j]? = some x ∧ d = .tuple [.int ((k + j : Nat) : Int), x]
  | [], k, j, d, h => by simp [enumD] at h
  | x :: ds, k, 0, d, h => by
    have h : some (PyData.tuple [.int (k : Int), x]) = some d := h
    cases h
    exact ⟨x, rfl, rfl⟩
  | x :: ds, k, j + 1, d, h => by
    have h : (enumD (k + 1) ds)[j]? = some d := by simpa [enumD] using h
    obtain ⟨y, h1, h2⟩ := enumD_at ds (k + 1) j d h
    exact ⟨y, by simpa using h1, by rw [h2, show k + 1 + j = k + (j + 1) by omega]⟩
theorem enumD_length : ∀ (ds : List D) (k : Nat), (enumD k ds).length = ds.length
  | [], k => rfl
  | x :: ds, k => by
    show (enumD (k + 1) ds).length + 1 = _
    rw [enumD_length ds (k + 1)]
    rfl
/-- the events of one row: what f gives at the first j places -/
def evTo {α : Type} (f : Nat → Option α) (j : Nat) : List α := (List.range j).filterMap f
theorem evTo_succ {α : Type} {f : Nat → Option α} {j : Nat} : evTo f (j + 1) = evTo f j ++ (f j).toList := by
  unfold evTo
  rw [List.range_succ, List.filterMap_append]
  cases h : f j <;> simp [h]
theorem evTo_len {α : Type} {f : Nat → Option α} {j : Nat} : (evTo f j).length ≤ j := by
  unfold evTo
  have := List.length_filterMap_le f (List.range j)
  rw [List.length_range] at this
  exact this
/-- a step: an event, or none -/
theorem push_step {i : Nat} {v : List Sl} {E : List (List Int × D)} {k : List Int} {d : D} {ck : CE} {ca : CA} (hi : v[i]? = some (.c 0)) (hE : E.length < 16000000)
    (hk : ck ⟨v, gm (grp E)⟩ = .ok (.d (ldD k)) ⟨v, gm (grp E)⟩) (ha : ∀ m, ca ⟨v, m⟩ = .ok [d] ⟨v, m⟩) : cAppI (cSetd (cVar i) ck) ca ⟨v, gm (grp E)⟩ = .ok (.d .none) ⟨v, gm (grp (E ++ [(k, d)]))⟩ := by
  rw [grp_snoc]
  exact setd_app hi (grp_nodup E) (Nat.lt_of_le_of_lt (grp_len E) hE) (fun l h => Nat.lt_of_le_of_lt (grp_ll h) hE) hk ha
/-! ### a ball leaves -/
def inc (k : List Int) (r : Nat) : List Int := sortD (k.set r (k.getD r 0 + 1))
/-- the loads of F have n boxes and so many balls -/
structure LdF (n : Nat) (b : Int) (F : List (List Int × Int)) : Prop where
  n1 : 1 ≤ n
  len : ∀ k, k ∈ keys F → k.length = n
  pos : ∀ k, k ∈ keys F → ∀ x, x ∈ k → 0 ≤ x
  sum : ∀ k, k ∈ keys F → k.sum = b
theorem row_ix {k : List Int} {d : D} : opIx (.d (rowD k d)) (.d (.int 0)) = some (.d (ldD k)) := rfl
end Vm
namespace Vm
open PySem L2 PySem.Spec PyProof.Rows
/-! ### a load changed by one, within a loop -/
/-! ### sums over events -/
theorem evW_perm {A B : List (List Int × Int)} (h : A.Perm B) (t : List Int) : evW A t = evW B t := perm_sum (h.map _)
theorem sumW_perm {A B : List (List Int × Int)} (h : A.Perm B) : sumW A = sumW B := perm_sum (h.map _)
theorem keys_perm {A B : List (List Int × Int)} (h : A.Perm B) (t : List Int) : t ∈ keys A ↔ t ∈ keys B := (h.map _).mem_iff
theorem sum_keys : ∀ {F : List (List Int × Int)}, (keys F).Nodup → ((keys F).map (wt F)).sum = sumW F
  | [], _ => rfl
  | p :: F, hn => by
    have hn : (p.1 :: keys F).Nodup := hn
    rw [List.nodup_cons] at hn
    show wt (p :: F) p.1 + ((keys F).map (wt (p :: F))).sum = p.2 + sumW F
    have e1 : wt (p :: F) p.1 = p.2 := by
      unfold wt
      rw [aget_cons, if_pos rfl]
      rfl
    have e2 : (keys F).map (wt (p :: F)) = (keys F).map (wt F) := by
      apply List.map_congr_left
      intro k hk
      unfold wt
      rw [aget_cons, if_neg fun z : p.1 = k => hn.1 (z ▸ hk)]
    rw [e1, e2, sum_keys hn.2]
theorem sumW_app {A B : List (List Int × Int)} : sumW (A ++ B) = sumW A + sumW B := by
  unfold sumW
  rw [List.map_append, List.sum_append]
theorem sumW_flat {α : Type} {f : α → List (List Int × Int)} {c : α → Int} {S : Int} : ∀ {ks : List α}, (∀ k, k ∈ ks → sumW (f k) = c k * S) → sumW (ks.flatMap f) = (ks.map c).sum * S
  | [], _ => by simp [sumW]
  | k :: ks, h => by
    rw [List.flatMap_cons, sumW_app, h k (List.mem_cons_self ..), sumW_flat fun x hx => h x (List.mem_cons_of_mem _ hx), List.map_cons, List.sum_cons, Int.add_mul]
/-- the amounts of one row, place by place -/
theorem sumW_evTo {f : Nat → Option (List Int × Int)} {w : Nat → Int} (h : ∀ r, match f r with
    | some e => e.2 = w r
    | none => w r = 0) : ∀ j, sumW (evTo f j) = ((List.range j).map w).sum
  | 0 => rfl
  | j + 1 => by
    rw [evTo_succ, sumW_app, sumW_evTo h j, List.range_succ, List.map_append, List.sum_append]
    have := h j
    cases e : f j with
    | none =>
      rw [e] at this
      simp [sumW, this]
    | some x =>
      rw [e] at this
      simp [sumW, this]
theorem range_getD (k : List Int) : (List.range k.length).map (fun r => k.getD r 0) = k := by
  apply List.ext_getElem?
  intro i
  rw [List.getElem?_map]
  by_cases h : i < k.length
  · rw [List.getElem?_range h, List.getElem?_eq_getElem h]
    show some (k.getD i 0) = _
    rw [getD_get h]
  · rw [List.getElem?_eq_none (by simp; omega), List.getElem?_eq_none (by omega)]
    rfl
theorem sum_mul_left (c : Int) : ∀ xs : List Int, (xs.map (c * ·)).sum = c * xs.sum
  | [] => by simp
  | x :: xs => by rw [List.map_cons, List.sum_cons, List.sum_cons, sum_mul_left c xs, Int.mul_add]
theorem mem_evTo {α : Type} {f : Nat → Option α} {j : Nat} {x : α} : x ∈ evTo f j ↔ ∃ r, r < j ∧ f r = some x := by
  unfold evTo
  rw [List.mem_filterMap]
  simp only [List.mem_range]
end Vm
namespace Vm
open PySem L2 PySem.Spec PyProof.Rows
theorem paired_app {α β : Type} {R : α → β → Prop} : ∀ {as : List α} {bs : List β} {cs : List α} {ds : List β}, Paired R as bs → Paired R cs ds → Paired R (as ++ cs) (bs ++ ds)
  | _, _, _, _, .nil, h => h
  | _, _, _, _, .cons r t, h => .cons r (paired_app t h)
theorem nat_mul_pos {a b : Int} (h1 : 0 ≤ a) (h2 : 0 ≤ b) : 0 ≤ a * b := Int.mul_nonneg h1 h2
section
variable {K n : Nat} {b : Int} {F : List (List Int × Int)}
theorem accL_len (E : List (List Int × Int)) : (accL E).length ≤ E.length := by
  have : ∀ (E : List (List Int × Int)) (G : List (List Int × Int)), (E.foldl accW G).length ≤ G.length + E.length := by
    intro E
    induction E with
    | nil => intro G; exact Nat.le_refl _
    | cons e E ih =>
      intro G
      have h1 := ih (accW G e)
      have h2 : (accW G e).length ≤ G.length + 1 := by
        unfold accW aput
        split
        · rw [List.length_map]; omega
        · rw [List.length_append]; exact Nat.le_refl _
      show (E.foldl accW (accW G e)).length ≤ _
      rw [List.length_cons]
      omega
  have := this E []
  rw [List.length_nil] at this
  unfold accL
  omega
end
end Vm
namespace Vm
open PySem L2 PySem.Spec PyProof.Rows
/-! ### a load drawn -/
structure Ld (n : Nat) (b : Int) (k : List Int) : Prop where
  len : k.length = n
  pos : ∀ x, x ∈ k → 0 ≤ x
  sum : k.sum = b
  fall : k.Pairwise (· ≥ ·)
/-! ### a weight added to a cell -/
theorem fiD_aput {F : List (List Int × Int)} {k : List Int} {v : Int} : aput (fiD F) k (.int v) = fiD (aput F k v) := by
  by_cases h : k ∈ keys F
  · rw [aput_old h, aput_old (by rw [keys_fiD]; exact h)]
    unfold fiD
    rw [List.map_map, List.map_map]
    apply List.map_congr_left
    intro p _
    show (if p.1 = k then (p.1, PyData.int v) else (p.1, PyData.int p.2)) = (fun p : List Int × Int => (p.1, PyData.int p.2)) (if p.1 = k then (p.1, v) else p)
    split <;> rfl
  · rw [aput_new h, aput_new (by rw [keys_fiD]; exact h)]
    unfold fiD
    rw [List.map_append]
    rfl
theorem kGet4_w {n : Nat} {F : List (List Int × Int)} {k : List Int} {s3 : S} (h : s3.m[n]? = some (.t (tkv (fiD F)))) : kGet4 (.ref n) (.d (ldD k)) (.d (.int 0)) s3 = .ok (.d (.int (wt F k))) s3 := by
  rw [kGet4_t h, aget_fiD]
  unfold wt
  cases aget F k <;> rfl
theorem putIn_w {F : List (List Int × Int)} {k : List Int} {v : Int} (h : F.length < 16000000) : putIn (.t (tkv (fiD F))) (ldD k) (.int v) = some (.t (tkv (fiD (aput F k v)))) := by
  rw [putIn_t (by unfold fiD; rw [List.length_map]; exact h), fiD_aput]
theorem put_acc {i t q : Nat} {v : List Sl} {m : List Cell} {F : List (List Int × Int)} {k : List Int} {c : Int} {ce : CE} (hi : v[i]? = some (.c q)) (ht : v[t]? = some (.d (ldD k))) (hq : m[q]? = some (.t (tkv (fiD F)))) (hF : F.length < 16000000) (hc : ce ⟨v, m⟩ = .ok (.d (.int c)) ⟨v, m⟩) :
    cPut (cVar i) (cVar t) (cOp2 opAdd (cGet (cVar i) (cVar t) (cC (.int 0))) ce) ⟨v, m⟩ = .nx ⟨v, m.set q (.t (tkv (fiD (accW F (k, c)))))⟩ := by
  have g := kGet4_w (n := q) (F := F) (k := k) (s3 := ⟨v, m⟩) hq
  have p := putR_s (n := q) (k := ldD k) (v := .int (wt F k + c)) (s3 := ⟨v, m⟩) hq
  rw [putIn_w hF] at p
  have e : aput F k (wt F k + c) = accW F (k, c) := rfl
  rw [e] at p
  simp [hi, ht, hq, g, hc, p]
end Vm
namespace Vm
open PySem L2 PySem.Spec PyProof.Rows
structure Cn (n : Nat) (b : Int) (i : Nat) (F : List (List Int × Int)) : Prop where
  nd : (keys F).Nodup
  ld : ∀ k, k ∈ keys F → Ld n b k
  w1 : ∀ k, k ∈ keys F → 1 ≤ wt F k
  len : F.length ≤ i
  sum : sumW F ≤ 30 * (i : Int)
  s1 : 1 ≤ i → 1 ≤ sumW F
theorem aput_len {β : Type} {F : List (List Int × β)} {k : List Int} {v : β} : (aput F k v).length ≤ F.length + 1 := by
  unfold aput
  split
  · rw [List.length_map]; omega
  · rw [List.length_append]; exact Nat.le_refl _
theorem sum_ge {F : List (List Int × Int)} (hn : (keys F).Nodup) (h : ∀ k, k ∈ keys F → 0 ≤ wt F k) : 0 ≤ sumW F ∧ ∀ k, k ∈ keys F → wt F k ≤ sumW F := by
  rw [← sum_keys hn]
  have h0 : ∀ x, x ∈ (keys F).map (wt F) → 0 ≤ x := fun x hx => by
    obtain ⟨k, hk, rfl⟩ := List.mem_map.mp hx
    exact h k hk
  exact ⟨sum_nonneg h0, fun k hk => mem_le_sum h0 _ (List.mem_map_of_mem hk)⟩
theorem Cn.ldF {n : Nat} {b : Int} {i : Nat} {F : List (List Int × Int)} (h : Cn n b i F) (n1 : 1 ≤ n) : LdF n b F := ⟨n1, fun k hk => (h.ld k hk).len, fun k hk => (h.ld k hk).pos, fun k hk => (h.ld k hk).sum⟩
theorem Cn.wok {n : Nat} {b : Int} {i : Nat} {F : List (List Int × Int)} (h : Cn n b i F) (n1 : 1 ≤ n) (i1 : 1 ≤ i) (i2 : i ≤ 4) : WOk 7 F := by
  have hw : ∀ t, t ∈ keys F → 0 ≤ wt F t := fun t ht => by have := h.w1 t ht; omega
  obtain ⟨s0, s2⟩ := sum_ge h.nd hw
  have hs := h.sum
  have hl := h.len
  refine ⟨h.nd, fun k hk z => ?_, by omega, hw, fun k hk => ?_, h.s1 i1, show (sumW F).natAbs < 2 ^ 7 by omega⟩
  · have := (h.ld k hk).len
    rw [z] at this
    simp at this
    omega
  · have := s2 k hk
    have := hw k hk
    show (wt F k).natAbs < 2 ^ 7
    omega
/-! ### the law's own leaving -/
theorem foldl_snoc {A : List (List Int × Int)} {E : List (List Int × Int)} {e : List Int × Int} : (E ++ [e]).foldl accW A = accW (E.foldl accW A) e := by
  rw [List.foldl_append]
  rfl
end Vm
namespace Vm
open PySem L2 PySem.Spec PyProof.Rows
/-! ### how many loads there are -/
def allL : Nat → Nat → Nat → List (List Int)
  | 0, b, _ => if b = 0 then [[]] else []
  | n + 1, b, m => (List.range (min b m + 1)).flatMap fun f => (allL n (b - f) f).map ((f : Int) :: ·)
theorem allL_mem : ∀ {n b m : Nat} {k : List Int}, Ld n b k → (∀ x, x ∈ k → x ≤ (m : Int)) → k ∈ allL n b m
  | 0, b, m, k, h, hm => by
    have hk : k = [] := List.eq_nil_of_length_eq_zero h.len
    subst hk
    have := h.sum
    unfold allL
    rw [if_pos (by simp at this; omega)]
    exact List.mem_cons_self ..
  | n + 1, b, m, k, h, hm => by
    obtain ⟨x, t, rfl⟩ : ∃ x t, k = x :: t := by
      cases k with
      | nil => have := h.len; simp at this
      | cons x t => exact ⟨x, t, rfl⟩
    have hx := h.pos x (List.mem_cons_self ..)
    have hp := h.fall
    rw [List.pairwise_cons] at hp
    have hsum := h.sum
    rw [List.sum_cons] at hsum
    have ht0 : 0 ≤ t.sum := sum_nonneg fun y hy => h.pos y (List.mem_cons_of_mem _ hy)
    have hxm := hm x (List.mem_cons_self ..)
    unfold allL
    refine List.mem_flatMap.mpr ⟨x.toNat, List.mem_range.mpr (by omega), List.mem_map.mpr ⟨t, ?_, by rw [Int.toNat_of_nonneg hx]⟩⟩
    refine allL_mem ⟨by have := h.len; simpa using this, fun y hy => h.pos y (List.mem_cons_of_mem _ hy), by omega, hp.2⟩ fun y hy => ?_
    have := hp.1 y hy
    omega
theorem nodup_len {α : Type} [DecidableEq α] : ∀ {xs ys : List α}, xs.Nodup → (∀ x, x ∈ xs → x ∈ ys) → xs.length ≤ ys.length
  | [], ys, _, _ => Nat.zero_le _
  | x :: xs, ys, hn, h => by
    rw [List.nodup_cons] at hn
    have hx := h x (List.mem_cons_self ..)
    have := nodup_len (ys := ys.erase x) hn.2 fun y hy => by
      have hne : y ≠ x := fun z => hn.1 (z ▸ hy)
      exact (List.mem_erase_of_ne hne).mpr (h y (List.mem_cons_of_mem _ hy))
    rw [List.length_erase_of_mem hx] at this
    have := List.length_pos_of_mem hx
    rw [List.length_cons]
    omega
theorem allL_tab : ((List.range 7).all fun n => (List.range 13).all fun b => decide ((allL n b b).length ≤ 60)) = true := by decide +kernel
theorem allL_tab2 : ((List.range 3).all fun n => (List.range 61).all fun b => decide ((allL n b b).length ≤ 60)) = true := by decide +kernel
theorem few {n b : Nat} {ks : List (List Int)} (hn : ks.Nodup) (h : ∀ k, k ∈ ks → Ld n b k) (hb : (n ≤ 6 ∧ b ≤ 12) ∨ (n ≤ 2 ∧ b ≤ 60)) : ks.length ≤ 60 := by
  have h1 := nodup_len hn (ys := allL n b b) fun k hk => allL_mem (h k hk) fun x hx => by
    rw [← (h k hk).sum]
    exact mem_le_sum (h k hk).pos _ hx
  rcases hb with ⟨h2, h3⟩ | ⟨h2, h3⟩
  · have := of_decide_eq_true (List.all_eq_true.mp (List.all_eq_true.mp allL_tab n (List.mem_range.mpr (by omega))) b (List.mem_range.mpr (by omega)))
    omega
  · have := of_decide_eq_true (List.all_eq_true.mp (List.all_eq_true.mp allL_tab2 n (List.mem_range.mpr (by omega))) b (List.mem_range.mpr (by omega)))
    omega
/-! ### a spread as a text -/
theorem ldD_kd {β : Bool} {k : List Int} (h : ∀ x, x ∈ k → Bs 20 x) (hn : k.length ≤ 12) : Kd β 300 1 (ldD k) := by
  have := Kd.tuple (b := β) (n := 22) (m := 0) (ds := k.map PyData.int) fun d hd => by
    obtain ⟨x, hx, rfl⟩ := List.mem_map.mp hd
    exact Kd.int (h x hx) (by decide)
  rw [List.length_map] at this
  exact this.mono (by omega) (by decide)
theorem tell_kd {β : Bool} {K : Nat} {d : D} {x : Rat} (h : Tell K d x) (hK : K ≤ 1900) : Kd β (2 * (K + 4) + 2) 1 d := by
  refine .ofFits (h.fits (by omega)) ?_
  obtain ⟨p, q, rfl, _⟩ := h.ex
  rfl
theorem spr_kd {K : Nat} {F : List (List Int × Int)} {ds : List D} (h : Spr K F ds) (hK : K ≤ 300) (hk : ∀ k, k ∈ keys F → k.length ≤ 12 ∧ ∀ x, x ∈ k → Bs 20 x) (hl : F.length ≤ 10000) : Kd true (F.length * 1300 + 2) 3 (.list ds) := by
  obtain ⟨g, rfl, t⟩ := h
  have := Kd.list (n := 1298) (m := 2) (ds := (sortL (keys F)).map fun k => rowD k (g k)) fun d hd => by
    obtain ⟨k, hk', rfl⟩ := List.mem_map.mp hd
    have hk' := sortL_mem.mp hk'
    exact (Kd.tuple (n := 616) (m := 1) (ds := [ldD k, g k]) fun d hd => by
      rcases List.mem_cons.mp hd with rfl | hd
      · exact (ldD_kd (hk k hk').2 (hk k hk').1).mono (by omega) (Nat.le_refl _)
      · have := List.mem_singleton.mp hd
        subst this
        exact (tell_kd (t k hk') (by omega)).mono (by omega) (Nat.le_refl _)).mono (by simp) (Nat.le_refl _)
  rw [List.length_map, sortL_len] at this
  unfold keys at this
  rw [List.length_map] at this
  exact this.mono (by omega) (Nat.le_refl _)
end Vm
namespace Vm
open PySem L2 PySem.Spec PyProof.Rows
/-! ### balls come -/
def cPutF : CS :=
 (cSeq (cSetM 2 cNewR)
 (cSeq (cFor (ciSeq (cVar 1)) (tgTup 2 (tgCons (tgN 3) (tgCons (tgN 4) tgNil)))
 (cFor (ciEnum (cVar 0)) (tgTup 2 (tgCons (tgN 5) (tgCons (tgN 6) tgNil)))
 (cIfS (cB (cOp2 opGt (cOp2 opIx (cVar 6) (cC (.int 0))) (cC (.int 0))))
 (cExp (cAppI (cSetd (cVar 2) (cCallP fPutAt (lCons (cVar 3) (lCons (cVar 5) lNil)))) (cCons (cCallP fTimes (lCons (cVar 4) (lCons (cVar 6) lNil))) cNil)))
 cNx)))
 (cRet (cCallP fGathered (lCons (cFzR 2) lNil)))))
def fPutF : Fn := runF 7 cPutF
/-- the rule's shares are the weights over their sum -/
structure RlW (K : Nat) (ws : List Int) (rl : List D) : Prop where
  len : rl.length = ws.length
  pos : ∀ w, w ∈ ws → 0 ≤ w
  s1 : 1 ≤ ws.sum
  at' : ∀ j, j < ws.length → ∃ p q, rl[j]? = some (shD p q) ∧ Sh K p q ∧ p * ws.sum = ws.getD j 0 * q
def incEv {β : Type} (ws : List Int) (k : List Int) (f : Nat → β) (r : Nat) : Option (List Int × β) := if 0 < ws.getD r 0 then some (inc k r, f r) else none
theorem put_run {n : Nat} {ws : List Int} {K0 : Nat} {rl : List D} {ks : List (List Int)} {g : List Int → D} {par : List Int → Nat → D} {rd : List D} (hR : RlW K0 ws rl) (hw : ws.length = n) (hn : ∀ k, k ∈ ks → k.length = n) (hl : ks.length * n ≤ 100000)
    (hp : ∀ k, k ∈ ks → ∀ r, r < n → 0 < ws.getD r 0 → ∃ sh, rl[r]? = some sh ∧ fTimes [.d (g k), .d sh] [] = .ok (.d (par k r)) [])
    (hg : fGathered [.d (dT (lsD (grp (ks.flatMap fun k => evTo (incEv ws k (par k)) n))))] [] = .ok (.new (.l rd)) []) :
    fPutF [.d (.tuple rl), .d (.list (ks.map fun k => rowD k (g k)))] [] = .ok (.new (.l rd)) [] := by
  let DS : D := .list (ks.map fun k => rowD k (g k))
  let RL : D := .tuple rl
  show fPutF [.d RL, .d DS] [] = _
  unfold fPutF
  apply Ok.eq
  apply run_ok
  unfold cPutF
  refine st (s1 := ⟨[.d RL, .d DS, .c 0, .u, .u, .u, .u], gm (grp [])⟩) (by simp; exact .rfl) ?_
  refine w_cut (fun s => ∃ x3 x4 x5 x6, s = ⟨[.d RL, .d DS, .c 0, x3, x4, x5, x6], gm (grp (ks.flatMap fun k => evTo (incEv ws k (par k)) n))⟩) ?_ fun s hs' => ?_
  · refine w_for (ds := ks.map fun k => rowD k (g k)) (fun i s => ∃ x3 x4 x5 x6, s = ⟨[.d RL, .d DS, .c 0, x3, x4, x5, x6], gm (grp ((ks.take i).flatMap fun k => evTo (incEv ws k (par k)) n))⟩) (s1 := ⟨[.d RL, .d DS, .c 0, .u, .u, .u, .u], gm (grp [])⟩) (by simp [DS]; exact .rfl) ⟨_, _, _, _, rfl⟩ (fun i d s hd hi => ?_) fun s hi => ?_
    · obtain ⟨x3, x4, x5, x6, rfl⟩ := hi
      rw [List.getElem?_map] at hd
      obtain ⟨k, hki, rfl⟩ := Option.map_eq_some_iff.mp hd
      have hk : k ∈ ks := List.mem_of_getElem? hki
      have hil : i < ks.length := (List.getElem?_eq_some_iff.mp hki).1
      refine ⟨⟨[.d RL, .d DS, .c 0, .d (ldD k), .d (g k), x5, x6], _⟩, rfl, ?_⟩
      have ht : (ks.take (i + 1)).flatMap (fun k => evTo (incEv ws k (par k)) n) = (ks.take i).flatMap (fun k => evTo (incEv ws k (par k)) n) ++ evTo (incEv ws k (par k)) n := by
        rw [List.take_add_one, hki, List.flatMap_append]
        simp
      have hpre : ((ks.take i).flatMap fun k => evTo (incEv ws k (par k)) n).length ≤ i * n := by
        have : ∀ l : List (List Int), (l.flatMap fun k => evTo (incEv ws k (par k)) n).length ≤ l.length * n := by
          intro l
          induction l with
          | nil => simp
          | cons a l ih =>
            rw [List.flatMap_cons, List.length_append, List.length_cons, Nat.succ_mul]
            have := evTo_len (f := incEv ws a (par a)) (j := n)
            omega
        have := this (ks.take i)
        rw [List.length_take, Nat.min_eq_left (by omega)] at this
        exact this
      generalize hpg : (ks.take i).flatMap (fun k => evTo (incEv ws k (par k)) n) = pre at *
      have hin : i * n + n ≤ 100000 := by
        have : (i + 1) * n ≤ ks.length * n := Nat.mul_le_mul_right _ (by omega)
        rw [Nat.succ_mul] at this
        omega
      have hkl := hn k hk
      refine w_for (ds := enumD 0 rl) (fun j s => ∃ y5 y6, s = ⟨[.d RL, .d DS, .c 0, .d (ldD k), .d (g k), y5, y6], gm (grp (pre ++ evTo (incEv ws k (par k)) j))⟩) (s1 := ⟨[.d RL, .d DS, .c 0, .d (ldD k), .d (g k), x5, x6], gm (grp pre)⟩) (by simp [RL]; exact .rfl) ⟨x5, x6, by simp [evTo]⟩ (fun j d s hd hj => ?_) fun s hj => ?_
      · obtain ⟨y5, y6, rfl⟩ := hj
        obtain ⟨x, hx, rfl⟩ := enumD_at _ _ _ _ hd
        rw [Nat.zero_add]
        have hjn : j < rl.length := (List.getElem?_eq_some_iff.mp hx).1
        have hjw : j < ws.length := by have := hR.len; omega
        obtain ⟨p, q, ej, sh, epq⟩ := hR.at' j hjw
        rw [hx] at ej
        cases ej
        have hs1 := hR.s1
        have hq := sh.pos
        have hw0 : 0 ≤ ws.getD j 0 := by
          rw [getD_get hjw]
          exact hR.pos _ (List.getElem_mem hjw)
        have hp0 : 0 < p ↔ 0 < ws.getD j 0 := by
          constructor
          · intro h
            have : 0 < ws.getD j 0 * q := by rw [← epq]; exact Int.mul_pos h (by omega)
            exact Int.pos_of_mul_pos_left this (by omega)
          · intro h
            have : 0 < p * ws.sum := by rw [epq]; exact Int.mul_pos h (by omega)
            exact Int.pos_of_mul_pos_left this (by omega)
        refine ⟨⟨[.d RL, .d DS, .c 0, .d (ldD k), .d (g k), .d (.int (j : Nat)), .d (shD p q)], _⟩, rfl, ?_⟩
        have i0 : opIx (.d (shD p q)) (.d (.int 0)) = some (.d (.int p)) := rfl
        rw [evTo_succ]
        by_cases hx0 : 0 < ws.getD j 0
        · obtain ⟨sh', a1, a2⟩ := hp k hk j (by omega) hx0
          rw [hx] at a1
          cases a1
          have ev : incEv ws k (par k) j = some (inc k j, par k j) := by
            unfold incEv
            rw [if_pos hx0]
          have hjk : j < k.length := by omega
          have tk := putAt_ok hjk
          have ed : (PyData.tuple ((sortD (k.set j (k[j] + 1))).map PyData.int)) = ldD (inc k j) := by
            unfold ldD inc
            rw [getD_get hjk]
          rw [ed] at tk
          have pl := evTo_len (f := incEv ws k (par k)) (j := j)
          have ps := push_step (i := 2) (v := [.d RL, .d DS, .c 0, .d (ldD k), .d (g k), .d (.int (j : Nat)), .d (shD p q)]) (E := pre ++ evTo (incEv ws k (par k)) j) (k := inc k j) (d := par k j)
            (ck := cCallP fPutAt (lCons (cVar 3) (lCons (cVar 5) lNil))) (ca := cCons (cCallP fTimes (lCons (cVar 4) (lCons (cVar 6) lNil))) cNil) rfl
            (by rw [List.length_append]; omega) (by simp [show fPutAt [.d (ldD k), .d (.int (j : Nat))] [] = _ from tk]) (fun m => by simp [a2])
          rw [ev]
          refine w_ifT (s1 := ⟨[.d RL, .d DS, .c 0, .d (ldD k), .d (g k), .d (.int (j : Nat)), .d (shD p q)], gm (grp (pre ++ evTo (incEv ws k (par k)) j))⟩) (by simp [i0, hp0.mpr hx0]; exact .rfl) ?_
          refine st_last (s1 := ⟨[.d RL, .d DS, .c 0, .d (ldD k), .d (g k), .d (.int (j : Nat)), .d (shD p q)], gm (grp (pre ++ evTo (incEv ws k (par k)) j ++ [(inc k j, par k j)]))⟩) (by simp [ps]; exact .rfl) ⟨.d (.int (j : Nat)), .d (shD p q), ?_⟩
          rw [List.append_assoc]
          rfl
        · have ev : incEv ws k (par k) j = none := by
            unfold incEv
            rw [if_neg hx0]
          rw [ev]
          refine w_ifF (s1 := ⟨[.d RL, .d DS, .c 0, .d (ldD k), .d (g k), .d (.int (j : Nat)), .d (shD p q)], gm (grp (pre ++ evTo (incEv ws k (par k)) j))⟩) (by simp [i0, show ¬ 0 < p from fun z => hx0 (hp0.mp z)]; exact .rfl) (w_nx ⟨.d (.int (j : Nat)), .d (shD p q), by simp⟩)
      · obtain ⟨y5, y6, rfl⟩ := hj
        refine ⟨.d (ldD k), .d (g k), y5, y6, ?_⟩
        rw [ht, enumD_length, hR.len, hw]
    · obtain ⟨x3, x4, x5, x6, rfl⟩ := hi
      rw [List.length_map, List.take_length]
      exact ⟨_, _, _, _, rfl⟩
  · obtain ⟨x3, x4, x5, x6, rfl⟩ := hs'
    obtain ⟨m, fz⟩ := cFzR_gm (i := 2) (v := [.d RL, .d DS, .c 0, x3, x4, x5, x6]) (G := grp (ks.flatMap fun k => evTo (incEv ws k (par k)) n)) rfl
    refine w_ret (by simp [fz, hg]; exact .rfl) ?_
    exact ok_new ⟨rfl, rfl⟩
/-- the events of a coming, by the rows ks -/
def comeE (F : List (List Int × Int)) (ws : List Int) (ks : List (List Int)) : List (List Int × Int) := ks.flatMap fun k => evTo (incEv ws k fun r => wt F k * ws.getD r 0) ws.length
def comeF (F : List (List Int × Int)) (ws : List Int) : List (List Int × Int) := accL (comeE F ws (keys F))
section
variable {K n : Nat} {b : Int} {F : List (List Int × Int)} {ws : List Int}
theorem comeE_row (hw : ∀ w, w ∈ ws → 0 ≤ w) {k : List Int} : sumW (evTo (incEv ws k fun r => wt F k * ws.getD r 0) ws.length) = wt F k * ws.sum := by
  have e := sumW_evTo (f := incEv ws k fun r => wt F k * ws.getD r 0) (w := fun r => wt F k * ws.getD r 0) (fun r => by
    unfold incEv
    by_cases h : 0 < ws.getD r 0
    · rw [if_pos h]
    · rw [if_neg h]
      have : ws.getD r 0 = 0 := by
        by_cases hr : r < ws.length
        · have := hw _ (List.getElem_mem hr)
          rw [getD_get hr] at h ⊢
          omega
        · rw [List.getD_eq_getElem?_getD, List.getElem?_eq_none (by omega)]
          rfl
      simp only [this, Int.mul_zero]) ws.length
  rw [e]
  have : (List.range ws.length).map (fun r => wt F k * ws.getD r 0) = ((List.range ws.length).map fun r => ws.getD r 0).map (wt F k * ·) := by
    rw [List.map_map]
    rfl
  rw [this, sum_mul_left, range_getD]
theorem comeE_sum (hw : ∀ w, w ∈ ws → 0 ≤ w) (hn : (keys F).Nodup) {ks : List (List Int)} (hp : ks.Perm (keys F)) : sumW (comeE F ws ks) = sumW F * ws.sum := by
  unfold comeE
  rw [sumW_flat (c := wt F) (S := ws.sum) fun k hk => comeE_row hw, perm_sum (hp.map (wt F)), sum_keys hn]
theorem comeE_mem {ks : List (List Int)} {e : List Int × Int} (h : e ∈ comeE F ws ks) : ∃ k r, k ∈ ks ∧ r < ws.length ∧ 0 < ws.getD r 0 ∧ e = (inc k r, wt F k * ws.getD r 0) := by
  unfold comeE at h
  obtain ⟨k, hk, h⟩ := List.mem_flatMap.mp h
  obtain ⟨r, hr, h⟩ := mem_evTo.mp h
  unfold incEv at h
  split at h
  · rename_i h0
    exact ⟨k, r, hk, hr, h0, (Option.some.inj h).symm⟩
  · cases h
theorem inc_len {k : List Int} {r : Nat} : (inc k r).length = k.length := by
  unfold inc
  rw [sortD_len, List.length_set]
theorem inc_sum {k : List Int} {r : Nat} (h : r < k.length) : (inc k r).sum = k.sum + 1 := by
  unfold inc
  rw [sortD_sum, sum_set _ _ _ h, getD_get h]
  omega
theorem inc_pos {k : List Int} {r : Nat} (h : r < k.length) (hp : ∀ x, x ∈ k → 0 ≤ x) : ∀ x, x ∈ inc k r → 0 ≤ x := fun x hx => by
  unfold inc at hx
  rw [sortD_mem] at hx
  rcases List.mem_or_eq_of_mem_set hx with h1 | h1
  · exact hp x h1
  · have := hp _ (List.getElem_mem h)
    rw [getD_get h] at h1
    omega
theorem comeE_len (ks : List (List Int)) : (comeE F ws ks).length ≤ ks.length * ws.length := by
  unfold comeE
  induction ks with
  | nil => simp
  | cons a l ih =>
    rw [List.flatMap_cons, List.length_append, List.length_cons, Nat.succ_mul]
    have := evTo_len (f := incEv ws a fun r => wt F a * ws.getD r 0) (j := ws.length)
    omega
theorem putF_ok {K' K0 : Nat} {ds rl : List D} (hS : Spr K F ds) (hL : LdF n b F) (h : WOk K F) (hR : RlW K0 ws rl) (hwl : ws.length = n) (hK : 1 ≤ K) (hKK : K ≤ K') (hK0 : K0 ≤ 1000) (hK3 : K' ≤ 3900) (hK' : Bs K' (sumW F * ws.sum)) (hl : F.length * n ≤ 100000) :
    ∃ ds', fPutF [.d (.tuple rl), .d (.list ds)] [] = .ok (.new (.l ds')) [] ∧ Spr K' (comeF F ws) ds' := by
  obtain ⟨g, rfl, ht⟩ := hS
  have pm := sortL_perm (keys F)
  have h1 := h.s1
  have hb := hR.s1
  have hw := hR.pos
  have hN : 1 ≤ sumW F * ws.sum := by
    have : 1 * 1 ≤ sumW F * ws.sum := Int.mul_le_mul h1 hb (by omega) (by omega)
    omega
  have hW := rat_ne h1
  have hb' := rat_ne hb
  have part : ∀ k r, k ∈ keys F → r < n → 0 < ws.getD r 0 → ∃ sh d, rl[r]? = some sh ∧ fTimes [.d (g k), .d sh] [] = .ok (.d d) [] ∧ Tell K' d (((wt F k * ws.getD r 0 : Int) : Rat) / (sumW F * ws.sum : Int)) := fun k r hk hr h0 => by
    have hrl : r < ws.length := by omega
    have hx : ws.getD r 0 ≤ ws.sum := by
      refine mem_le_sum hw _ ?_
      rw [getD_get hrl]
      exact List.getElem_mem hrl
    obtain ⟨p, q, e, s, r1⟩ := hR.at' r hrl
    have r2 : (p : Rat) * (ws.sum : Int) = ((ws.getD r 0 : Int) : Rat) * (q : Int) := by rw [← Rat.intCast_mul, ← Rat.intCast_mul, r1]
    have t1 : Tell K0 (shD p q) (((ws.getD r 0 : Int) : Rat) / (ws.sum : Int)) := ⟨p, q, rfl, s, by grind⟩
    obtain ⟨d, e2, t2⟩ := times_t (ht k hk) t1 (by omega)
    have ex : (wt F k : Rat) / (sumW F : Int) * (((ws.getD r 0 : Int) : Rat) / (ws.sum : Int)) = ((wt F k * ws.getD r 0 : Int) : Rat) / (sumW F * ws.sum : Int) := by
      rw [Rat.intCast_mul, Rat.intCast_mul]
      grind
    rw [ex] at t2
    have w0 := h.pos k hk
    have wle : wt F k ≤ sumW F := by
      rw [← sum_keys h.nd]
      refine mem_le_sum (fun x hx => ?_) _ (List.mem_map_of_mem hk)
      obtain ⟨k', hk', rfl⟩ := List.mem_map.mp hx
      exact h.pos k' hk'
    exact ⟨shD p q, d, e, e2, tell_tight t2 hN (bs_between (nat_mul_pos w0 (by omega)) (Int.mul_le_mul wle hx (by omega) (by omega)) hK') hK' (by omega)⟩
  classical
  let par : List Int → Nat → D := fun k r => if hh : k ∈ keys F ∧ r < n ∧ 0 < ws.getD r 0 then (part k r hh.1 hh.2.1 hh.2.2).choose_spec.choose else .none
  have hpar : ∀ k r, k ∈ keys F → r < n → 0 < ws.getD r 0 → ∃ sh, rl[r]? = some sh ∧ fTimes [.d (g k), .d sh] [] = .ok (.d (par k r)) [] ∧ Tell K' (par k r) (((wt F k * ws.getD r 0 : Int) : Rat) / (sumW F * ws.sum : Int)) := fun k r a1 a2 a3 => by
    have e : par k r = (part k r a1 a2 a3).choose_spec.choose := dif_pos ⟨a1, a2, a3⟩
    rw [e]
    exact ⟨_, (part k r a1 a2 a3).choose_spec.choose_spec⟩
  generalize par = par at hpar
  have ev : ∀ ks : List (List Int), (∀ k, k ∈ ks → k ∈ keys F) → EvR K' (sumW F * ws.sum) (ks.flatMap fun k => evTo (incEv ws k (par k)) n) (comeE F ws ks) := by
    have row : ∀ k, k ∈ keys F → ∀ j, j ≤ n → EvR K' (sumW F * ws.sum) (evTo (incEv ws k (par k)) j) (evTo (incEv ws k fun r => wt F k * ws.getD r 0) j) := by
      intro k hk j
      induction j with
      | zero => intro _; exact .nil
      | succ j ih =>
        intro hj
        rw [evTo_succ, evTo_succ]
        refine paired_app (ih (by omega)) ?_
        unfold incEv
        by_cases h0 : 0 < ws.getD j 0
        · rw [if_pos h0, if_pos h0]
          obtain ⟨sh, _, _, t⟩ := hpar k j hk (by omega) h0
          exact .cons ⟨rfl, t, nat_mul_pos (h.pos k hk) (by omega)⟩ .nil
        · rw [if_neg h0, if_neg h0]
          exact .nil
    intro ks
    induction ks with
    | nil => intro _; exact .nil
    | cons k ks ih =>
      intro hk
      unfold comeE
      rw [List.flatMap_cons, List.flatMap_cons, hwl]
      have := ih fun x hx => hk x (List.mem_cons_of_mem _ hx)
      unfold comeE at this
      rw [hwl] at this
      exact paired_app (row k (hk k (List.mem_cons_self ..)) n (Nat.le_refl _)) this
  have es : sumW (comeE F ws (sortL (keys F))) = sumW F * ws.sum := comeE_sum hw h.nd pm
  have hE := ev (sortL (keys F)) fun k hk => sortL_mem.mp hk
  have kl : (sortL (keys F)).length = F.length := by rw [sortL_len]; unfold keys; rw [List.length_map]
  rw [← es] at hE
  obtain ⟨ds', e1, e2⟩ := gathered_ok hE (by rw [es]; exact hN) (by rw [es]; exact hK') (by omega) hK3 (fun k hk => by
    obtain ⟨e, he, rfl⟩ := List.mem_map.mp hk
    obtain ⟨k, r, a1, a2, a3, rfl⟩ := comeE_mem he
    have := hL.len k (sortL_mem.mp a1)
    intro z
    have : (inc k r).length = 0 := by rw [show inc k r = [] from z]; rfl
    rw [inc_len] at this
    have := hL.n1
    omega) (by
    have := paired_len hE
    rw [this]
    refine Nat.le_trans (comeE_len _) ?_
    rw [kl, hwl]
    exact hl)
  have pmE : (comeE F ws (sortL (keys F))).Perm (comeE F ws (keys F)) := pm.flatMap_right _
  refine ⟨ds', put_run hR hwl (fun k hk => hL.len k (sortL_mem.mp hk)) (by rw [kl]; exact hl) (fun k hk r hr h0 => ?_) e1, e2.congr (accL_nodup _) (accL_nodup _) (fun k => ?_) (fun k => ?_) ?_⟩
  · obtain ⟨sh, a, c, _⟩ := hpar k r (sortL_mem.mp hk) hr h0
    exact ⟨sh, a, c⟩
  · unfold comeF
    rw [accL_keys, accL_keys]
    exact keys_perm pmE k
  · unfold comeF
    rw [accL_wt, accL_wt]
    exact evW_perm pmE k
  · unfold comeF
    rw [accL_sum, accL_sum]
    exact sumW_perm pmE
end
/-! ### the law's own coming -/
end Vm
namespace Vm
open PySem L2 PySem.Spec PyProof.Rows
/-! ### weights drawn, whatever lies beside the pen -/
theorem weightsR_ok {B n : Nat} {p : Cell} (r : List Cell) (hp : IsPen B p) (hB : B < 900000) (n1 : 1 ≤ n) (n2 : n ≤ 13) : ∃ (ws : List Int) (p' : Cell), fWeightsB [.c 0, .d (.int (n : Nat))] (p :: r) = .ok (.new (.l (ws.map PyData.int))) (p' :: r) ∧ (ws.length = n ∧ (∀ w, w ∈ ws → 0 ≤ w ∧ w ≤ 80) ∧ 1 ≤ ws.sum) ∧ IsPen (B + 16) p' := by
  suffices h : Ok (fWeightsB [.c 0, .d (.int (n : Nat))] (p :: r)) fun a m => ∃ (ws : List Int) (p' : Cell), a = .new (.l (ws.map PyData.int)) ∧ m = p' :: r ∧ (ws.length = n ∧ (∀ w, w ∈ ws → 0 ≤ w ∧ w ≤ 80) ∧ 1 ≤ ws.sum) ∧ IsPen (B + 16) p' by
    obtain ⟨_, _, e, ws, p', rfl, rfl, h⟩ := h
    exact ⟨ws, p', e, h⟩
  unfold fWeightsB
  refine run_ok ?_
  unfold cWeightsB
  obtain ⟨w, p1, e1, w0, w1, hp1⟩ := dB r 6 hp
  obtain ⟨b, eb, b0, b1⟩ : ∃ b : Int, opIx (.d (.list [PyData.int 10, .int 2, .int 4, .int 10, .int 10, .int 80])) (.d (.int w)) = some (.d (.int b)) ∧ 2 ≤ b ∧ b ≤ 80 := by
    have hw : w = 0 ∨ w = 1 ∨ w = 2 ∨ w = 3 ∨ w = 4 ∨ w = 5 := by omega
    rcases hw with rfl | rfl | rfl | rfl | rfl | rfl <;> exact ⟨_, rfl, by decide, by decide⟩
  refine st (s1 := ⟨[.c 0, .d (.int (n : Nat)), .d (.int w), .u, .u, .u], p1 :: r⟩) (by simp [e1]; exact .rfl) ?_
  have r1 := ciR1_n (c := cVar 1) (s := ⟨[.c 0, .d (.int (n : Nat)), .d (.int w), .u, .u, .u], p1 :: r⟩) (s1 := ⟨[.c 0, .d (.int (n : Nat)), .d (.int w), .u, .u, .u], p1 :: r⟩) (n := n) (by simp) (by omega)
  obtain ⟨acc, m', e3, hl, hJ, p2, rfl, hp2⟩ := lc_draws (own := [5]) (tg := tgN 5) (el := (cCall fDrawB (lCons (cVar 0) (lCons (cOp2 opIx (cLst (cCons (cC (.int 10)) (cCons (cC (.int 2)) (cCons (cC (.int 4)) (cCons (cC (.int 10)) (cCons (cC (.int 10)) (cCons (cC (.int 80)) cNil))))))) (cVar 2)) lNil)))) (fun i m => ∃ p, m = p :: r ∧ IsPen (B + 1 + i) p) (fun d => ∃ i, d = .int i ∧ 0 ≤ i ∧ i ≤ 80) r1 (by simp; omega) ⟨p1, rfl, hp1⟩ fun i m d hd hi => by
    obtain ⟨p, rfl, hp⟩ := hi
    have hi : i < n := by
      have := (List.getElem?_eq_some_iff.mp hd).1
      simpa using this
    obtain ⟨v, p', e, v0, v1, hp'⟩ := dB r b hp
    exact ⟨_, rfl, .int v, [.c 0, .d (.int (n : Nat)), .d (.int w), .u, .u, .d d], p' :: r, by simp [eb, e], ⟨v, rfl, v0, by omega⟩, p', rfl, hp'⟩
  obtain ⟨ys, rfl, hys⟩ := ints_of (fun i => 0 ≤ i ∧ i ≤ 80) hJ
  rw [List.length_map, List.length_map, List.length_range] at hl
  rw [List.length_map, List.length_range] at hp2
  have hget : ∀ (R : List Cell) (p c : Cell), (p :: (R ++ [c]))[R.length + 1]? = some c := fun R p c => by simp
  have hset : ∀ (R : List Cell) (p c c' : Cell), (p :: (R ++ [c])).set (R.length + 1) c' = p :: (R ++ [c']) := fun R p c c' => by
    rw [List.set_cons_succ, List.set_append_right _ _ (Nat.le_refl _), Nat.sub_self]
    rfl
  refine st (s1 := ⟨[.c 0, .d (.int (n : Nat)), .d (.int w), .c (r.length + 1), .u, .u], p2 :: (r ++ [.l (ys.map PyData.int)])⟩) (by simp [e3]; exact .rfl) ?_
  obtain ⟨at', p3, e4, a0, a1, hp3⟩ := dB (r ++ [.l (ys.map PyData.int)]) (n : Int) hp2
  obtain ⟨t, rfl⟩ : ∃ t : Nat, at' = (t : Int) := ⟨at'.toNat, by omega⟩
  refine st (s1 := ⟨[.c 0, .d (.int (n : Nat)), .d (.int w), .c (r.length + 1), .d (.int (t : Nat)), .u], p3 :: (r ++ [.l (ys.map PyData.int)])⟩) (by simp [e4]; exact .rfl) ?_
  have tail : ∀ (R : List Cell) (us : List Int) (w : Int), (∃ z, R = r ++ z) → us.length = n → (∀ u, u ∈ us → 0 ≤ u ∧ u ≤ 80) → Wp (cSeq (cIfS (cB (cOp2 opEq (cOp1 opSum (cVar 3)) (cC (.int 0))))
   (cPutL (cVar 3) (cVar 4) (cOp2 opAdd (cC (.int 1)) (cCall fDrawB (lCons (cVar 0) (lCons (cC (.int 9)) lNil)))))
   cNx)
   (cRet (cVar 3))) (poF (p :: r) fun a m => ∃ (ws : List Int) (p' : Cell), a = .new (.l (ws.map PyData.int)) ∧ m = p' :: r ∧ (ws.length = n ∧ (∀ w, w ∈ ws → 0 ≤ w ∧ w ≤ 80) ∧ 1 ≤ ws.sum) ∧ IsPen (B + 16) p') ⟨[.c 0, .d (.int (n : Nat)), .d (.int w), .c (R.length + 1), .d (.int (t : Nat)), .u], p3 :: (R ++ [.l (us.map PyData.int)])⟩ := fun R us w hR ul up => by
    have uz := sum_nonneg fun u hu => (up u hu).1
    obtain ⟨z, hz⟩ := hR
    have hlen : r.length ≤ R.length := by rw [hz, List.length_append]; omega
    have htk : ∀ (p c : Cell), (p :: (R ++ [c])).take (r.length + 1) = p :: r := fun p c => by
      rw [List.take_succ_cons, hz, List.append_assoc, List.take_left]
    by_cases h0 : us.sum = 0
    · obtain ⟨v, p4, e5, v0, v1, hp4⟩ := dB (R ++ [.l (us.map PyData.int)]) 9 hp3
      have hut : us[t]'(by omega) = 0 := by
        have h1 := mem_le_sum (fun u hu => (up u hu).1) _ (List.getElem_mem (show t < us.length by omega))
        have h2 := (up _ (List.getElem_mem (show t < us.length by omega))).1
        omega
      have hs2 := sum_set (1 + v) us t (by omega)
      have hgood : (us.set t (1 + v)).length = n ∧ (∀ w, w ∈ us.set t (1 + v) → 0 ≤ w ∧ w ≤ 80) ∧ 1 ≤ (us.set t (1 + v)).sum := by
        refine ⟨by rw [List.length_set, ul], fun w hw => ?_, by rw [hs2]; omega⟩
        rcases List.mem_or_eq_of_mem_set hw with h | rfl
        · exact up w h
        · omega
      have mm : (us.map PyData.int).set t (PyData.int (1 + v)) = (us.set t (1 + v)).map PyData.int := List.map_set.symm
      have pu := putLR_s (n := R.length + 1) (k := (t : Int)) (v := .int (1 + v)) (s3 := ⟨[.c 0, .d (.int (n : Nat)), .d (.int w), .c (R.length + 1), .d (.int (t : Nat)), .u], p4 :: (R ++ [.l (us.map PyData.int)])⟩) (xs := us.map PyData.int) (hget _ _ _) (by omega) (by simp; omega)
      rw [Int.toNat_natCast, mm] at pu
      dsimp only at pu
      rw [hset] at pu
      refine st (s1 := ⟨[.c 0, .d (.int (n : Nat)), .d (.int w), .c (R.length + 1), .d (.int (t : Nat)), .u], p4 :: (R ++ [.l ((us.set t (1 + v)).map PyData.int)])⟩) (by simp [hget, h0, e5, pu, -List.map_set]; exact .rfl) ?_
      exact w_ret (x := .ref (R.length + 1)) (s1 := ⟨[.c 0, .d (.int (n : Nat)), .d (.int w), .c (R.length + 1), .d (.int (t : Nat)), .u], p4 :: (R ++ [.l ((us.set t (1 + v)).map PyData.int)])⟩) (by simp; exact .rfl) (ok_cell (c := .l ((us.set t (1 + v)).map PyData.int)) (by simp; omega) (hget _ _ _) nofun ⟨_, p4, rfl, htk _ _, hgood, hp4.mono (by omega)⟩)
    · have hgood : us.length = n ∧ (∀ w, w ∈ us → 0 ≤ w ∧ w ≤ 80) ∧ 1 ≤ us.sum := ⟨ul, up, by omega⟩
      refine st (s1 := ⟨[.c 0, .d (.int (n : Nat)), .d (.int w), .c (R.length + 1), .d (.int (t : Nat)), .u], p3 :: (R ++ [.l (us.map PyData.int)])⟩) (by simp [hget, h0]; exact .rfl) ?_
      exact w_ret (x := .ref (R.length + 1)) (s1 := ⟨[.c 0, .d (.int (n : Nat)), .d (.int w), .c (R.length + 1), .d (.int (t : Nat)), .u], p3 :: (R ++ [.l (us.map PyData.int)])⟩) (by simp; exact .rfl) (ok_cell (c := .l (us.map PyData.int)) (by simp; omega) (hget _ _ _) nofun ⟨_, p3, rfl, htk _ _, hgood, hp3.mono (by omega)⟩)
  have l2e : ∀ c : List Int, (r ++ [Cell.l (ys.map PyData.int)]).length + 1 = r.length + 2 := fun _ => by simp
  by_cases h3 : w = 3
  · subst h3
    have r2 := ciR1_n (c := cVar 1) (s := ⟨[.c 0, .d (.int (n : Nat)), .d (.int 3), .c (r.length + 1), .d (.int (t : Nat)), .u], p3 :: (r ++ [.l (ys.map PyData.int)])⟩) (s1 := ⟨[.c 0, .d (.int (n : Nat)), .d (.int 3), .c (r.length + 1), .d (.int (t : Nat)), .u], p3 :: (r ++ [.l (ys.map PyData.int)])⟩) (n := n) (by simp) (by omega)
    have l2 := lc_for (own := [5]) (tg := tgN 5) (el := (cOp1 opInt (cOp2 opEq (cVar 5) (cVar 4)))) (fun a : Nat => PyData.int (if (a : Int) = (t : Int) then 1 else 0)) r2 (by simp; omega) fun a ha => ⟨_, rfl, [.c 0, .d (.int (n : Nat)), .d (.int 3), .c (r.length + 1), .d (.int (t : Nat)), .d (.int (a : Nat))], by simp⟩
    have hm : (List.range n).map (fun a : Nat => PyData.int (if (a : Int) = (t : Int) then 1 else 0)) = ((List.range n).map fun a : Nat => if (a : Int) = (t : Int) then (1 : Int) else 0).map PyData.int := by rw [List.map_map]; rfl
    rw [hm] at l2
    have tl := tail (r ++ [.l (ys.map PyData.int)]) ((List.range n).map fun a : Nat => if (a : Int) = (t : Int) then (1 : Int) else 0) 3 ⟨_, rfl⟩ (by simp) fun u hu => by
      obtain ⟨a, _, rfl⟩ := List.mem_map.mp hu
      split <;> decide
    generalize ((List.range n).map fun a : Nat => if (a : Int) = (t : Int) then (1 : Int) else 0) = us at l2 tl
    rw [l2e us] at tl
    refine st (s1 := ⟨[.c 0, .d (.int (n : Nat)), .d (.int 3), .c (r.length + 2), .d (.int (t : Nat)), .u], p3 :: (r ++ [.l (ys.map PyData.int)] ++ [.l (us.map PyData.int)])⟩) (by simp [l2]; exact .rfl) ?_
    refine st (s1 := ⟨[.c 0, .d (.int (n : Nat)), .d (.int 3), .c (r.length + 2), .d (.int (t : Nat)), .u], p3 :: (r ++ [.l (ys.map PyData.int)] ++ [.l (us.map PyData.int)])⟩) (by simp; exact .rfl) ?_
    exact tl
  · by_cases h4 : w = 4
    · subst h4
      have rp := opMul_rep (x := .int 0) (n := (t : Int)) (by omega) (by omega)
      rw [Int.toNat_natCast, rep_map] at rp
      have cf := cutD_from (xs := ys.map PyData.int) (k := (t : Int)) (by omega)
      rw [Int.toNat_natCast, ← List.map_drop] at cf
      have ad := opAdd_l (xs := (List.replicate t (0 : Int)).map PyData.int) (ys := (ys.drop t).map PyData.int) (by simp; omega)
      rw [← List.map_append] at ad
      have tl := tail (r ++ [.l (ys.map PyData.int)]) (List.replicate t (0 : Int) ++ ys.drop t) 4 ⟨_, rfl⟩ (by simp; omega) fun u hu => by
        rcases List.mem_append.mp hu with h | h
        · rw [List.eq_of_mem_replicate h]
          decide
        · exact hys u (List.mem_of_mem_drop h)
      generalize (List.replicate t (0 : Int) ++ ys.drop t) = us at ad tl
      rw [l2e us] at tl
      refine st (s1 := ⟨[.c 0, .d (.int (n : Nat)), .d (.int 4), .c (r.length + 1), .d (.int (t : Nat)), .u], p3 :: (r ++ [.l (ys.map PyData.int)])⟩) (by simp; exact .rfl) ?_
      refine st (s1 := ⟨[.c 0, .d (.int (n : Nat)), .d (.int 4), .c (r.length + 2), .d (.int (t : Nat)), .u], p3 :: (r ++ [.l (ys.map PyData.int)] ++ [.l (us.map PyData.int)])⟩) (by simp [hget, rp, cf, ad, -List.map_drop, -List.map_replicate]; exact .rfl) ?_
      exact tl
    · refine st (s1 := ⟨[.c 0, .d (.int (n : Nat)), .d (.int w), .c (r.length + 1), .d (.int (t : Nat)), .u], p3 :: (r ++ [.l (ys.map PyData.int)])⟩) (by simp [h3]; exact .rfl) ?_
      refine st (s1 := ⟨[.c 0, .d (.int (n : Nat)), .d (.int w), .c (r.length + 1), .d (.int (t : Nat)), .u], p3 :: (r ++ [.l (ys.map PyData.int)])⟩) (by simp [h4]; exact .rfl) ?_
      exact tail r ys w ⟨[], by simp⟩ hl hys
/-- a rule by weights -/
theorem ruleW_ok {ws : List Int} (hl : ws.length ≤ 100) (hw : ∀ w, w ∈ ws → 0 ≤ w ∧ w ≤ 100000000000) (h1 : 1 ≤ ws.sum) : ∃ ds, fRuleB [.d (.list (ws.map PyData.int))] [] = .ok (.d (.tuple ds)) [] ∧ RlW 45 ws ds := by
  have hs : ws.sum ≤ 100 * 100000000000 := by
    have := sum_le_mul (b := 100000000000) (xs := ws) fun y hy => (hw y hy).2
    omega
  have low : ∀ w, w ∈ ws → ∃ p q, fLawLowest [.d (.int w), .d (.int ws.sum)] [] = .ok (.d (shD p q)) [] ∧ Sh 45 p q ∧ p * ws.sum = w * q := fun w hw' => by
    obtain ⟨w0, w1⟩ := hw w hw'
    exact lowest_ok (top := w) (bot := ws.sum) (j := 45) (k := 45) w0 h1 (show w.natAbs < 2 ^ 45 by omega) (show ws.sum.natAbs < 2 ^ 45 by omega) (by decide)
  classical
  let G : Int → D := fun w => if h : w ∈ ws then shD (low w h).choose (low w h).choose_spec.choose else .none
  have hG : ∀ w, w ∈ ws → ∃ p q, G w = shD p q ∧ fLawLowest [.d (.int w), .d (.int ws.sum)] [] = .ok (.d (G w)) [] ∧ Sh 45 p q ∧ p * ws.sum = w * q := fun w h => by
    have e : G w = shD (low w h).choose (low w h).choose_spec.choose := dif_pos h
    obtain ⟨a1, a2, a3⟩ := (low w h).choose_spec.choose_spec
    exact ⟨_, _, e, by rw [e]; exact a1, a2, a3⟩
  generalize G = G at hG
  refine ⟨ws.map G, ?_, by rw [List.length_map], fun w h => (hw w h).1, h1, fun j hj => ?_⟩
  · have lc := lc_for (own := [1]) (ci := ciSeq (cVar 0)) (tg := tgN 1) (el := (cCallP fLawLowest (lCons (cVar 1) (lCons (cOp1 opSum (cVar 0)) lNil)))) (s := ⟨[.d (.list (ws.map PyData.int)), .u], []⟩) (s1 := ⟨[.d (.list (ws.map PyData.int)), .u], []⟩) (xs := ws) (F := PyData.int) G (by simp) (by omega) fun w h => by
      obtain ⟨p, q, _, e, _⟩ := hG w h
      exact ⟨_, rfl, [.d (.list (ws.map PyData.int)), .d (.int w)], by simp [e]⟩
    unfold fRuleB
    apply Ok.eq
    apply run_ok
    unfold cRuleB
    refine w_ret (by simp [lc]; exact .rfl) ?_
    exact ok_0 ⟨rfl, rfl⟩
  · obtain ⟨p, q, e, _, a, c⟩ := hG ws[j] (List.getElem_mem hj)
    exact ⟨p, q, by rw [List.getElem?_map, List.getElem?_eq_getElem hj, Option.map_some, e], a, by rw [getD_get hj]; exact c⟩
end Vm
namespace Vm
open PySem L2 PySem.Spec PyProof.Rows
section
variable {X : Cx} {ec : EC} {W : WX}
/-- a method without arguments of a list just made -/
def cMutN (f : List D → List D → Option (D × List D)) (co : CE) : CE := fun s => (co s).bind fun a s1 => match a with
  | .new (.l xs) => match f xs [] with
    | some (d, _) => .ok (.d d) s1
    | none => .bad
  | _ => .bad
end
@[simp] theorem cMutN_l {f : List D → List D → Option (D × List D)} {co : CE} {s s1 : S} {xs ys : List D} {d : D} (h : co s = .ok (.new (.l xs)) s1) (hf : f xs [] = some (d, ys)) : cMutN f co s = .ok (.d d) s1 := by
  unfold cMutN
  rw [h]
  show (match f xs [] with
    | some (d, _) => R.ok (Rv.d d) s1
    | none => .bad) = _
  rw [hf]
end Vm
namespace Vm
open PySem L2 PySem.Spec PyProof.Rows
def cNeedRS : CS :=
 (cIfS (cB (cOp2 opNe (cOp1 opLen (cVar 0)) (cOp1 opLen (cOp2 opIx (cOp2 opIx (cVar 1) (cC (.int 0))) (cC (.int 0))))))
 (cRaise "Unlike")
 cNx)
def fNeedRS : Fn := runF 2 cNeedRS
theorem first_row {k : List Int} {g : List Int → D} {ks : List (List Int)} : opIx (.d (.list ((k :: ks).map fun k => rowD k (g k)))) (.d (.int 0)) = some (.d (rowD k (g k))) := by
  have := opIx_ln (ds := (k :: ks).map fun k => rowD k (g k)) (i := 0) (by simp)
  simpa using this
theorem needRS_run {rl : List D} {k : List Int} {g : List Int → D} {ks : List (List Int)} : fNeedRS [.d (.tuple rl), .d (.list ((k :: ks).map fun k => rowD k (g k)))] [] = if rl.length = k.length then .ok (.d .none) [] else .ex "Unlike" [] := by
  have e0 := first_row (k := k) (g := g) (ks := ks)
  generalize (k :: ks).map (fun k => rowD k (g k)) = ds at e0
  have el : opLen (.d (ldD k)) = some (.d (.int k.length)) := by
    unfold ldD
    rw [opLen_t, List.length_map]
  unfold fNeedRS
  rw [runF_s]
  by_cases h : rl.length = k.length
  · rw [if_pos h]
    simp [cNeedRS, e0, row_ix, el, h]
  · rw [if_neg h]
    have : ¬ ((rl.length : Int) = (k.length : Int)) := by omega
    simp [cNeedRS, e0, row_ix, el, this]
theorem spr_cons {K : Nat} {F : List (List Int × Int)} {ds : List D} (h : Spr K F ds) (h1 : 1 ≤ sumW F) : ∃ (k : List Int) (ks : List (List Int)) (g : List Int → D), ds = (k :: ks).map (fun k => rowD k (g k)) ∧ k ∈ keys F := by
  obtain ⟨g, rfl, _⟩ := h
  cases e : sortL (keys F) with
  | nil =>
    have := congrArg List.length e
    rw [sortL_len] at this
    unfold keys at this
    rw [List.length_map] at this
    have hF : F = [] := List.eq_nil_of_length_eq_zero this
    rw [hF] at h1
    simp [sumW] at h1
  | cons k ks => exact ⟨k, ks, g, rfl, sortL_mem.mp (by rw [e]; exact List.mem_cons_self ..)⟩
theorem needRS_ok {K n : Nat} {b : Int} {F : List (List Int × Int)} {ds rl : List D} (h : Spr K F ds) (hL : LdF n b F) (h1 : 1 ≤ sumW F) (hr : rl.length = n) : fNeedRS [.d (.tuple rl), .d (.list ds)] [] = .ok (.d .none) [] := by
  obtain ⟨k, ks, g, rfl, hk⟩ := spr_cons h h1
  rw [needRS_run, if_pos (by rw [hr, hL.len k hk])]
/-! ### put, after -/
def cPutS : CS :=
 (cSeq (cExp (cCallP fNeedRS (lCons (cVar 0) (lCons (cVar 1) lNil))))
 (cSeq (cSetM 2 (cCallP fPutF (lCons (cVar 0) (lCons (cVar 1) lNil))))
 (cSeq (cIfS (cB (cOp2 opGt (cOp1 opLen (cVar 2)) (cC (.int 60))))
 (cRaise "TooMany")
 cNx)
 (cRet (cVar 2)))))
def fPutS : Fn := runF 3 cPutS
theorem putS_run {a : D} {ds ds' : List D} (h1 : fNeedRS [.d a, .d (.list ds)] [] = .ok (.d .none) []) (h2 : fPutF [.d a, .d (.list ds)] [] = .ok (.new (.l ds')) []) : fPutS [.d a, .d (.list ds)] [] = if ds'.length ≤ 60 then .ok (.new (.l ds')) [] else .ex "TooMany" [] := by
  unfold fPutS
  rw [runF_s]
  by_cases h : ds'.length ≤ 60
  · rw [if_pos h]
    have : ¬ ((60 : Int) < (ds'.length : Int)) := by omega
    simp [cPutS, h1, h2, this]
  · rw [if_neg h]
    have : (60 : Int) < (ds'.length : Int) := by omega
    simp [cPutS, h1, h2, this]
def cAfterS : CS :=
 (cSeq (cExp (cCallP fNeedRS (lCons (cVar 0) (lCons (cVar 1) lNil))))
 (cSeq (cSetM 3 (cOp1 opList (cVar 1)))
 (cSeq (cFor (ciR1 (cVar 2)) (tgN 4)
 (cSetM 3 (cCallP fPutS (lCons (cVar 0) (lCons (cFz 3) lNil)))))
 (cRet (cVar 3)))))
def fAfterS : Fn := runF 5 cAfterS
theorem afterS_run {a : D} {m : Nat} {f : Nat → List D} (h1 : fNeedRS [.d a, .d (.list (f 0))] [] = .ok (.d .none) []) (hm : m ≤ 1000) (h2 : ∀ i, i < m → fPutS [.d a, .d (.list (f i))] [] = .ok (.new (.l (f (i + 1)))) []) : fAfterS [.d a, .d (.list (f 0)), .d (.int (m : Nat))] [] = .ok (.new (.l (f m))) [] := by
  unfold fAfterS
  apply Ok.eq
  apply run_ok
  unfold cAfterS
  let I0 : Sl := .d (.list (f 0))
  let Im : Sl := .d (.int (m : Nat))
  refine st (s1 := ⟨[.d a, I0, Im, .u, .u], []⟩) (by simp [h1]; exact .rfl) ?_
  refine st (s1 := ⟨[.d a, I0, Im, .c 0, .u], [] ++ [.l (f 0)]⟩) (by simp [I0]; exact .rfl) ?_
  have r1 := ciR1_n (c := cVar 2) (s := ⟨[.d a, I0, Im, .c 0, .u], [] ++ [.l (f 0)]⟩) (s1 := ⟨[.d a, I0, Im, .c 0, .u], [] ++ [.l (f 0)]⟩) (n := m) (by simp [Im]) (by omega)
  refine w_cut (fun s => ∃ r x4, s = ⟨[.d a, I0, Im, .c r.length, x4], r ++ [.l (f m)]⟩) ?_ fun s hs => ?_
  · refine w_for (ds := (List.range m).map fun i : Nat => PyData.int (i : Int)) (fun i s => ∃ (r : List Cell) (x4 : Sl), s = ⟨[.d a, I0, Im, .c r.length, x4], r ++ [.l (f i)]⟩) r1 ⟨[], .u, rfl⟩ (fun i d s hd hi => ?_) fun s hi => by
      rw [List.length_map, List.length_range] at hi
      exact hi
    obtain ⟨r, x4, rfl⟩ := hi
    obtain ⟨hi, rfl⟩ := rangeN_get hd
    refine ⟨⟨[.d a, I0, Im, .c r.length, .d (.int (i : Nat))], r ++ [.l (f i)]⟩, rfl, ?_⟩
    have fz := cFz_l (i := 3) (n := r.length) (s := ⟨[.d a, I0, Im, .c r.length, .d (.int (i : Nat))], r ++ [.l (f i)]⟩) (ds := f i) rfl (by simp)
    have hset : (r ++ [Cell.l (f i)]).set r.length .gone = r ++ [.gone] := by
      rw [List.set_append_right _ _ (Nat.le_refl _), Nat.sub_self]
      rfl
    dsimp only at fz
    rw [hset] at fz
    refine st_last (s1 := ⟨[.d a, I0, Im, .c (r ++ [Cell.gone]).length, .d (.int (i : Nat))], (r ++ [.gone]) ++ [.l (f (i + 1))]⟩) (by simp [fz, h2 i hi]; exact .rfl) ⟨r ++ [.gone], _, rfl⟩
  · obtain ⟨r, x4, rfl⟩ := hs
    refine w_ret (x := .ref r.length) (by simp; exact .rfl) ?_
    exact ok_cell (c := .l (f m)) (Nat.zero_le _) (by simp) (by intro z; cases z) ⟨rfl, rfl⟩
def fAlone : Fn := runF 1 (cRet (cLst (cCons (cTup (cCons (cVar 0) (cCons (cTup (cCons (cC (.int 1)) (cCons (cC (.int 1)) cNil))) cNil))) cNil)))
theorem alone_ok {k : List Int} : fAlone [.d (ldD k)] [] = .ok (.new (.l [rowD k (shD 1 1)])) [] := by
  unfold fAlone
  rw [runF_s]
  simp
  rfl
/-! ### steps of coming -/
/-- what holds behind k balls -/
structure InvC (n b k c : Nat) (F : List (List Int × Int)) (ds : List D) : Prop where
  ld : LdF n ((b : Int) + k) F
  fl : ∀ t, t ∈ keys F → t.Pairwise (· ≥ ·)
  ok : WOk (7 + c * k) F
  spr : Spr (7 + c * k) F ds
theorem InvC.few {n b k c : Nat} {F : List (List Int × Int)} {ds : List D} (h : InvC n b k c F ds) (hb : (n ≤ 6 ∧ b + k ≤ 12) ∨ (n ≤ 2 ∧ b + k ≤ 60)) : F.length ≤ 60 := by
  have := Vm.few (n := n) (b := b + k) (ks := keys F) h.ok.nd (fun t ht => ⟨h.ld.len t ht, h.ld.pos t ht, by rw [h.ld.sum t ht]; omega, h.fl t ht⟩) hb
  unfold keys at this
  rw [List.length_map] at this
  exact this
end Vm
namespace Vm
open PySem L2 PySem.Spec PyProof.Rows
/-! ### a comprehension within one -/
theorem lookup_lab {f : Str → NameKind → NameKind} {x : Str} {k : NameKind} : ∀ {names : List (Str × NameKind)}, names.lookup x = some k → (names.map fun p => (p.1, f p.1 p.2)).lookup x = some (f x k)
  | [], h => by simp at h
  | (n, j) :: r, h => by
    rw [List.map_cons, List.lookup_cons]
    rw [List.lookup_cons] at h
    dsimp only
    cases e : x == n with
    | true =>
      rw [e] at h
      cases h
      rw [eq_of_beq e]
    | false =>
      rw [e] at h
      exact lookup_lab h
theorem blkOk_in {N : List Str} {X : Cx} {s : Shared} {H : Hp} {scope0 : Scope} {cl : List (Str × Addr)} {C : Addr} {fp : List Addr} {scope : Scope} {own : List (Str × Nat)} (hN : X.N = N) (h : blkC N scope0 scope own = true) :
    BlkOk (X.blk s H scope0 (compEnvC scope0 cl C X.env) fp).N (X.blk s H scope0 (compEnvC scope0 cl C X.env) fp).env.scope scope own := by
  have ok := blkOk_by h
  refine ⟨ok.kind, ok.uniq, ?_, fun y hy e => ?_, ?_⟩
  · show ∀ p ∈ own, X.N[p.2]? = some p.1
    rw [hN]
    exact ok.ix
  · have key : ∀ k, (k = .cell ∨ k = .free) → scope0.names.lookup y.1 = some k → (relabel scope0 X.env).names.lookup y.1 = some .cell ∨ (relabel scope0 X.env).names.lookup y.1 = some .free := fun k hk hl => by
      have hf : (relabel scope0 X.env).names = scope0.names.map fun p => (p.1, (fun n k => if (k == NameKind.free && X.env.scope.kind == .function && X.env.kindOf n == some .cell) = true then NameKind.cell else k) p.1 p.2) := by
        unfold relabel
        dsimp only
        congr 1
        funext p
        obtain ⟨n, k⟩ := p
        dsimp only
        split <;> rfl
      have l2 := lookup_lab (f := fun n k => if (k == NameKind.free && X.env.scope.kind == .function && X.env.kindOf n == some .cell) = true then NameKind.cell else k) hl
      rw [hf, l2]
      split
      · exact .inl rfl
      · rcases hk with rfl | rfl
        · exact .inl rfl
        · exact .inr rfl
    rcases ok.free y hy e with h | h
    · exact key _ (.inl rfl) h
    · exact key _ (.inr rfl) h
  · show ∀ y ∈ scope.names, y.2 = .local ∨ y.2 = .cell → y.1 ∈ own.map (·.1) ∨ y.1 ∉ X.N
    rw [hN]
    exact ok.own
end Vm
namespace Vm
open PySem L2 PySem.Spec PyProof.Rows
/-! ### stands: numbers by boxes -/
def insS (k : List Int) (r : Nat) : List Int := k.set r (k.getD r 0 + 1)
/-! ### nets -/
structure Net where
  n : Nat
  ps : List (Nat × Nat)
  lf : Bool
/-- where the two halves of a pair go -/
def goal (lf : Bool) (k : List Int) (p : Nat × Nat) : Nat × Nat :=
  if k.getD p.1 0 < k.getD p.2 0 ∨ (k.getD p.1 0 = k.getD p.2 0 ∧ lf = true) then (p.1, p.1) else if k.getD p.2 0 < k.getD p.1 0 then (p.2, p.2) else p
def two (p : Nat × Nat) : List Nat := [p.1, p.2]
def goals (N : Net) (k : List Int) : List Nat := N.ps.flatMap fun p => two (goal N.lf k p)
def hv (N : Net) (k : List Int) : List Int := (goals N k).foldl insS (List.replicate N.n 0)
end Vm
namespace Vm
open PySem L2 PySem.Spec PyProof.Rows
/-! dict of pairs, each load once -/
theorem wt_one {k : List Int} : wt [(k, (1 : Int))] k = 1 := by
  unfold wt
  rw [aget_cons, if_pos rfl]
  rfl
theorem spr_one_row {K : Nat} {k : List Int} {ds : List D} (h : Spr K [(k, (1 : Int))] ds) : ds = [rowD k (shD 1 1)] := by
  obtain ⟨g, rfl, t⟩ := h
  have : sortL (keys [(k, (1 : Int))]) = [k] := List.perm_singleton.mp (sortL_perm _)
  rw [this]
  have t1 := t k (List.mem_singleton.mpr rfl)
  have : g k = shD 1 1 := t1.one (tell_whole.to (by
    have e2 : sumW [(k, (1 : Int))] = 1 := rfl
    rw [wt_one, e2]
    grind))
  show [rowD k (g k)] = _
  rw [this]
/-! ### balls one behind another -/
/-! ### who is there hangs on the keys alone -/
/-! ### all stands -/
end Vm
namespace Vm
open PySem L2 PySem.Spec PyProof.Rows
/-! ### list(range(n)) -/
theorem rangeD_mapI (lo : Int) (n : Nat) : rangeD lo n = ((List.range n).map fun i : Nat => lo + (i : Int)).map PyData.int := by
  rw [rangeD_map, List.map_map]
  rfl
def opListRg : Od → Option Rv
  | .d (.int n) => if -4611686018427387904 ≤ n ∧ n ≤ 16000000 then some (.new (.l (rangeD 0 n.toNat))) else none
  | _ => none
theorem s_listRg {K : Fg} : Op1S K (fun x H Q => ∃ n, x = .int n ∧ RgOk 0 n ∧ ∀ q : Addr, H q = none → Q (.ref q) (upd H q (.lst (rgV 0 n)))) opListRg := by
  intro w x o rv Q hx h e q
  unfold opListRg at e
  split at e
  · rename_i n
    split at e
    · rename_i hn
      cases e
      refine ⟨n, h.int, ⟨by decide, by decide, by omega, by omega, by omega⟩, fun p hp => post_lst q ?_ hp hx⟩
      have e1 : rgV 0 n = ((List.range n.toNat).map fun i : Nat => (0 : Int) + (i : Int)).map V.int := by
        unfold rgV
        rw [List.map_map, Int.sub_zero]
        rfl
      rw [e1, rangeD_mapI]
      exact rpAll_ints _
    · cases e
  · cases e
section
variable {X : Cx} {ec : EC} {W : WX}
theorem e_listRg {a : Expr} {ca : CE} {p p2 pos pos2 : Pos} (hm : X.mg "list" = none) (hr : X.mg "range" = none) (ha : Ex X ec W a ca) (hc : X.calm = true := by rfl) (hg : Gl X "list" := by rfl) (hg2 : Gl X "range" := by rfl) (h1 : starEach [a] X.env = (false, eval a X.env) :: starEach [] X.env := by rfl)
    (h2 : starEach [.Call (.Name "range" p2) [a] [] pos2] X.env = (false, eval (.Call (.Name "range" p2) [a] [] pos2) X.env) :: starEach [] X.env := by rfl) : Ex X ec W (.Call (.Name "list" p) [.Call (.Name "range" p2) [a] [] pos2] [] pos) (cOp1 opListRg ca) :=
  (pe_listRg hc hg hm (prg_1 hg2 hr ha h1) h2).imp fun σ H Q h => by
    have := op1 s_listRg h
    exact rd_imp this fun x H1 ⟨n, e, ok, q⟩ => ⟨n, e, ok, q⟩
end
theorem opListRg_n {n : Nat} (h : n ≤ 1000000) : opListRg (.d (.int (n : Nat))) = some (.new (.l (((List.range n).map fun i : Nat => (i : Int)).map PyData.int))) := by
  have e : rangeD 0 n = ((List.range n).map fun i : Nat => (i : Int)).map PyData.int := by
    rw [rangeD_mapI]
    have : (List.range n).map (fun i : Nat => (0 : Int) + (i : Int)) = (List.range n).map fun i : Nat => (i : Int) := List.map_congr_left fun i _ => Int.zero_add _
    rw [this]
  show (if -4611686018427387904 ≤ (n : Int) ∧ (n : Int) ≤ 16000000 then _ else _) = _
  rw [if_pos ⟨by omega, by omega⟩, Int.toNat_natCast, e]
end Vm
namespace Vm
open PySem L2 PySem.Spec PyProof.Rows
/-! ### nets in which each box stands as often -/
structure Half (n j : Nat) (zs : List (Nat × Nat)) (xs : List Nat) : Prop where
  fst : zs.map (·.1) = List.range j
  prm : (zs.map (·.2) ++ xs).Perm (List.range n)
theorem Half.len {n j : Nat} {zs : List (Nat × Nat)} {xs : List Nat} (h : Half n j zs xs) : zs.length = j ∧ j + xs.length = n := by
  have h1 := congrArg List.length h.fst
  have h2 := h.prm.length_eq
  rw [List.length_map, List.length_range] at h1
  rw [List.length_append, List.length_map, List.length_range] at h2
  omega
theorem Half.lt {n j : Nat} {zs : List (Nat × Nat)} {xs : List Nat} (h : Half n j zs xs) : ∀ q, q ∈ zs → q.1 < n ∧ q.2 < n := fun q hq => by
  have l := h.len
  have h1 : q.1 ∈ zs.map (·.1) := List.mem_map_of_mem hq
  rw [h.fst, List.mem_range] at h1
  have h2 : q.2 ∈ zs.map (·.2) ++ xs := List.mem_append_left _ (List.mem_map_of_mem (f := (·.2)) hq)
  have h3 := List.mem_range.mp (h.prm.mem_iff.mp h2)
  exact ⟨by omega, h3⟩
end Vm
/-! Vm82: len(set(xs)) of a list of ints -/
/-! Vm83: repr of data with dicts anywhere, and of a dict with tuple keys -/
namespace Vm
open PySem L2 PySem.Spec PyProof.Rows
mutual
/-- no dict with tuple keys -/
def noTg : D → Bool
  | .none | .bool _ | .int _ | .str _ => true
  | .list xs => noTgAll xs
  | .tuple xs => noTgAll xs
  | .dict es => (match es with | (.list [], .none) :: _ => false | (.list [.none], .none) :: _ => false | (.list [.bool true], .none) :: _ => false | _ => true) && noTgKv es
def noTgAll : List D → Bool
  | [] => true
  | x :: xs => noTg x && noTgAll xs
def noTgKv : List (D × D) → Bool
  | [] => true
  | (_, v) :: r => noTg v && noTgKv r
end
/-- a dict with tuple keys is shown without its mark -/
def shX : D → D
  | .dict ((.list [], .none) :: es) => .dict es
  | d => d
def tgTop : D → Bool
  | .dict ((.list [], .none) :: es) => noTgKv es
  | d => noTg d
def okrX (d : D) : Bool := tgTop d && decide ((shX d).depth ≤ 60) && (shX d).showable && decide ((shX d).shown.length ≤ 16000000)
def opReprX : Od → Option Rv
  | .d d => if okrX d = true then some (.d (.str (shX d).shown)) else none
  | _ => none
end Vm
namespace Vm
open PySem L2 PySem.Spec PyProof.Rows
/-! ### a def under another global name -/
structure DefA (K : Fg) (mg : Str → Option Value) (x z : Str) (st : Stmt) (ps : List Str) : Prop where
  ex : ∃ f fd, Fun K z z st f fd ∧ mg x = some (.ref f) ∧ ∀ us : List Value, us.length = ps.length → bindArgs fd ⟨us, []⟩ = pure (ps.zip us)
section
variable {P : Program} {wo : World} {K : Fg} {mg : Str → Option Value} {base : Heap} {ec : EC} {x z : Str} {st : Stmt} {ps : List Str} {k : Nat} {f : Fn}
theorem DefA.cal (D : DefA K mg x z st ps) (h : ∀ {fa : Addr} {fd : FuncData}, Fun K z z st fa fd → FnG P wo K mg base k fa fd ps (spF K ec ps.length f)) : Cal P wo K mg base ec x ps f k := by
  obtain ⟨fa, fd, F, hm, hb⟩ := D.ex
  obtain ⟨oc, od, kV, doc, pm, an, cdv, ct, osl, e, lk, _⟩ := F.ex
  exact ⟨fa, fd, oc, od, osl, lk, h F, hm, F.kp, .all hb⟩
end
end Vm
namespace Vm
open PySem L2
/-! ### the order of loads: plain laws -/
theorem Maj.trans {xs ys zs : List Int} (h : Maj xs ys) (g : Maj ys zs) (hl : xs.length = ys.length) : Maj xs zs := fun k hk => Int.le_trans (h k hk) (g k (by omega))
/-! ### a move makes no fuller -/
/-! ### lists of moves, walked -/
theorem Leads.append : ∀ {qs rs : List (Nat × Nat)} {ys zs xs : List Int}, Leads qs ys zs → Leads rs zs xs → Leads (qs ++ rs) ys xs
  | [], rs, ys, zs, xs, h, g => by
    have h : ys = zs := h
    subst h
    exact g
  | q :: qs, rs, ys, zs, xs, ⟨h1, h2, h3, h4⟩, g => ⟨h1, h2, h3, h4.append g⟩
/-! ### all in one box, and all even -/
end Vm
namespace Vm
open PySem L2 PySem.Spec PyProof.Rows
/-! ### a def handed to a def that calls it -/
/-- the start in which a slot f holds the def at a -/
abbrev EC.fn (ec : EC) (a : Addr) : EC := { ec with lf := a }
theorem Mem.fn {ec : EC} {K : Fg} {w : Wd} {m : List Cell} (h : Mem ec K w m) (a : Addr) : Mem (ec.fn a) K w m :=
  ⟨h.ext, h.len, h.nd, h.cell, h.fo, h.tab, h.inv, h.gt, h.nv⟩
theorem Mem.unfn {ec : EC} {a : Addr} {K : Fg} {w : Wd} {m : List Cell} (h : Mem (ec.fn a) K w m) : Mem ec K w m :=
  ⟨h.ext, h.len, h.nd, h.cell, h.fo, h.tab, h.inv, h.gt, h.nv⟩
theorem ExcF.fn {K : Fg} {mg : Str → Option Value} {ec : EC} {x : Str} {n : String} (h : ExcF K mg ec x n) (a : Addr) : ExcF K mg (ec.fn a) x n := ⟨h.g, h.x, h.k, h.b, h.t⟩
theorem IsF.fn {K : Fg} {mg : Str → Option Value} {ec : EC} {x : Str} {n : String} (h : IsF K mg ec x n) (a : Addr) : IsF K mg (ec.fn a) x n := ⟨h.ex⟩
theorem CatF.fn {K : Fg} {mg : Str → Option Value} {ec : EC} {x : Str} {L : List String} (h : CatF K mg ec x L) (a : Addr) : CatF K mg (ec.fn a) x L := ⟨h.ex⟩
theorem FOk.fn {K : Fg} {ec : EC} {a : Addr} {Q : VK} {E : XK} {w : Wd} {rf : RF} (h : FOk K ec Q E w rf) : FOk K (ec.fn a) Q E w rf := by
  cases rf with
  | bad => exact h
  | ex n m' => exact fun w2 le2 m2 => h w2 le2 m2.unfn
  | ok x m' => exact fun y w2 le2 m2 o fr => h y w2 le2 m2.unfn o fr
theorem FOk.unfn {K : Fg} {ec : EC} {a : Addr} {Q : VK} {E : XK} {w : Wd} {rf : RF} (h : FOk K (ec.fn a) Q E w rf) : FOk K ec Q E w rf := by
  cases rf with
  | bad => exact h
  | ex n m' => exact fun w2 le2 m2 => h w2 le2 (m2.fn a)
  | ok x m' => exact fun y w2 le2 m2 o fr => h y w2 le2 (m2.fn a) o fr
end Vm
namespace Vm
open PySem L2 PySem.Spec PyProof.Rows
/-! ### rules beside one another; whole numbers drawn (D), some moved behind, their rule -/
/-- rules told by rationals -/
structure Rt (K n : Nat) (ds : List D) (xs : List Rat) : Prop where
  len : ds.length = n
  xlen : xs.length = n
  tell : ∀ (i : Nat) (d : D) (x : Rat), ds[i]? = some d → xs[i]? = some x → Tell K d x
theorem isum_le {ws : List Int} {b : Int} (h : ∀ w, w ∈ ws → w ≤ b) : ws.sum ≤ ws.length * b := by
  induction ws with
  | nil => simp
  | cons w ws ih =>
    have h1 := h w (List.mem_cons_self ..)
    have h2 := ih fun x hx => h x (List.mem_cons_of_mem _ hx)
    rw [List.sum_cons, List.length_cons, Int.natCast_add, Int.add_mul]
    omega
end Vm
namespace Vm
open PySem L2 PySem.Spec PyProof.Rows
/-! ### mixtures by first sums; the shares of whole numbers -/
theorem Rt.mono {j k n : Nat} {ds : List D} {xs : List Rat} (h : Rt j n ds xs) (q : j ≤ k) : Rt k n ds xs := ⟨h.len, h.xlen, fun i d x a b => (h.tell i d x a b).mono q⟩
end Vm
namespace Vm
open PySem L2 PySem.Spec PyProof.Rows
/-! ### mixtures of rules of unlike many bits -/
theorem IsRl.rt {k n : Nat} {ds : List D} (h : IsRl k n ds) : Rt k n ds (ds.map ratD) := ⟨h.1, by rw [List.length_map]; exact h.1, fun i d x hd hx => by
  rw [List.getElem?_map, hd] at hx
  cases hx
  exact (h.tell (List.mem_of_getElem? hd)).1⟩
theorem IsRl.ge {k n : Nat} {ds : List D} (h : IsRl k n ds) : ∀ x, x ∈ ds.map ratD → 0 ≤ x := fun x hx => by
  obtain ⟨d, hd, rfl⟩ := List.mem_map.mp hx
  exact (h.tell hd).2
end Vm
namespace Vm
open PySem L2 PySem.Spec PyProof.Rows
/-! ### tuples and lists whose elements are data or cells: the object never changes, its cells may -/
/-! ### argument lists whose lists stay cells -/
abbrev CAN := S → R (List El)
def nNil : CAN := fun s => .ok [] s
def nCons (c : CE) (ca : CAN) : CAN := fun s => (c s).bind fun a s1 => match a with
  | .d x => (ca s1).bind fun r s2 => .ok (.d x :: r) s2
  | .ref n => (ca s1).bind fun r s2 => .ok (.c n :: r) s2
  | .new (.l ds) => (ca ⟨s1.v, s1.m ++ [.l ds]⟩).bind fun r s2 => .ok (.c s1.m.length :: r) s2
  | _ => .bad
section
variable {X : Cx} {ec : EC} {W : WX}
def cTupN (ca : CAN) : CE := fun s => (ca s).bind fun es s1 => .ok (.t true es) s1
/-! ### items of them -/
def elV (es : List El) (k : Int) (s : S) : R Rv := match L2.ixN es.length k with
  | some j => match es[j]? with
    | some (.d x) => .ok (.d x) s
    | some (.c n) => .ok (.ref n) s
    | none => .bad
  | none => .bad
def kIxT (o : Rv) (i : Rv) (s2 : S) : R Rv := match o, i with
  | .t _ es, .d (.int k) => elV es k s2
  | o, i => opt (o.od s2.m) fun o => opt (i.od s2.m) fun o' => opt (opIx o o') fun rv => .ok rv s2
def cIxT (co ci : CE) : CE := fun s => (cv co s).bind fun o s1 => (cv ci s1).bind fun i s2 => kIxT o i s2
/-! ### read as data -/
def elsD (m : List Cell) : List El → Option (List D)
  | [] => some []
  | .d x :: r => match elsD m r with
    | some ds => some (x :: ds)
    | none => none
  | .c k :: r => match m[k]? with
    | some (.l ls) => match elsD m r with
      | some ds => some (.list ls :: ds)
      | none => none
    | _ => none
def outD : Bool → List D → D
  | true, ds => .tuple ds
  | false, ds => .list ds
/-- repr of such a thing, or of data -/
def kReprT (o : Rv) (s : S) : R Rv := match o with
  | .t b es => opt (elsD s.m es) fun ds => if okrX (outD b ds) = true then .ok (.d (.str (shX (outD b ds)).shown)) s else .bad
  | o => opt (o.od s.m) fun o => opt (opReprX o) fun rv => .ok rv s
def cReprT (c : CE) : CE := fun s => (cv c s).bind kReprT
/-! ### read for the last time, it becomes data -/
end
/-! ### comprehensions whose turns make lists: a table -/
end Vm
namespace Vm
open PySem L2
/-! ### steps of things whose elements are data or cells, for simp -/
def kIx1 (ci : CE) (o : Rv) (s1 : S) : R Rv := (cv ci s1).bind (kIxT o)
@[simp] theorem kIx1_s {ci : CE} {o : Rv} {s1 : S} : kIx1 ci o s1 = (cv ci s1).bind (kIxT o) := Eq.trans rfl rfl
@[simp] theorem cIxT_s {co ci : CE} {s : S} : cIxT co ci s = (cv co s).bind (kIx1 ci) := Eq.trans rfl rfl
@[simp] theorem kIxT_t {b : Bool} {es : List El} {k : Int} {s : S} : kIxT (.t b es) (.d (.int k)) s = elV es k s := Eq.trans rfl rfl
@[simp] theorem nNil_s {s : S} : nNil s = .ok [] s := Eq.trans rfl rfl
def kNc (e : El) (r : List El) (s2 : S) : R (List El) := .ok (e :: r) s2
@[simp] theorem kNc_s {e : El} {r : List El} {s2 : S} : kNc e r s2 = .ok (e :: r) s2 := Eq.trans rfl rfl
def nconsR (ca : CAN) : Rv → S → R (List El)
  | .d x, s1 => (ca s1).bind (kNc (.d x))
  | .ref n, s1 => (ca s1).bind (kNc (.c n))
  | .new (.l ds), s1 => (ca ⟨s1.v, s1.m ++ [.l ds]⟩).bind (kNc (.c s1.m.length))
  | _, _ => .bad
@[simp] theorem nconsR_d {ca : CAN} {x : D} {s1 : S} : nconsR ca (.d x) s1 = (ca s1).bind (kNc (.d x)) := Eq.trans rfl rfl
@[simp] theorem nconsR_r {ca : CAN} {n : Nat} {s1 : S} : nconsR ca (.ref n) s1 = (ca s1).bind (kNc (.c n)) := Eq.trans rfl rfl
@[simp] theorem nconsR_l {ca : CAN} {ds : List D} {s1 : S} : nconsR ca (.new (.l ds)) s1 = (ca ⟨s1.v, s1.m ++ [.l ds]⟩).bind (kNc (.c s1.m.length)) := Eq.trans rfl rfl
@[simp] theorem nCons_s {c : CE} {ca : CAN} {s : S} : nCons c ca s = (c s).bind (nconsR ca) := by
  unfold nCons
  congr 1
  funext a s1
  cases a with
  | d x => rfl
  | ref n => rfl
  | t _ _ => rfl
  | new c => cases c <;> rfl
def kTn (es : List El) (s1 : S) : R Rv := .ok (.t true es) s1
@[simp] theorem kTn_s {es : List El} {s1 : S} : kTn es s1 = .ok (.t true es) s1 := Eq.trans rfl rfl
@[simp] theorem cTupN_s {ca : CAN} {s : S} : cTupN ca s = (ca s).bind kTn := Eq.trans rfl rfl
@[simp] theorem cReprT_s {c : CE} {s : S} : cReprT c s = (cv c s).bind kReprT := Eq.trans rfl rfl
end Vm
namespace Vm
open PySem L2 PySem.Spec PyProof.Rows
/-! ### pairings: two rules gone through from the fullest box on, in whole numbers -/
/-- a rule over the bottom M -/
structure IR (K : Nat) (M : Int) (n : Nat) (ds : List D) (us : List Int) : Prop where
  len : ds.length = n
  ulen : us.length = n
  ge : ∀ u, u ∈ us → 0 ≤ u
  sum : us.sum = M
  m1 : 1 ≤ M
  bM : Bs K M
  tell : ∀ (i : Nat) (d : D) (u : Int), ds[i]? = some d → us[i]? = some u → Tell K d ((u : Rat) / (M : Rat))
theorem IR.rt {K n : Nat} {M : Int} {ds : List D} {us : List Int} (h : IR K M n ds us) : Rt K n ds (us.map fun u : Int => (u : Rat) / (M : Rat)) := ⟨h.len, by rw [List.length_map]; exact h.ulen, fun i d x hd hx => by
  rw [List.getElem?_map] at hx
  obtain ⟨u, hu, rfl⟩ := Option.map_eq_some_iff.mp hx
  exact h.tell i d u hd hu⟩
def rs (n : Nat) (f : Nat → Int) : Int := ((List.range n).map f).sum
theorem rs_congr {n : Nat} {f g : Nat → Int} (h : ∀ a, a < n → f a = g a) : rs n f = rs n g := by
  unfold rs
  rw [List.map_congr_left fun a ha => h a (List.mem_range.mp ha)]
theorem rs_succ {n : Nat} {f : Nat → Int} : rs (n + 1) f = rs n f + f n := by
  unfold rs
  rw [List.range_succ, List.map_append, List.sum_append]
  simp
theorem rs_upd {f : Nat → Int} {j : Nat} {p : Int} : ∀ n : Nat, rs n (fun b => if b = j then f b + p else f b) = rs n f + if j < n then p else 0
  | 0 => by simp [rs]
  | n + 1 => by
    rw [rs_succ, rs_succ, rs_upd n]
    by_cases h : n = j
    · subst h
      simp
      omega
    · by_cases h2 : j < n
      · simp [h, h2, Nat.lt_succ_of_lt h2]
        omega
      · have h3 : ¬ j < n + 1 := by omega
        simp [h, h2, h3]
theorem rs_zero {n : Nat} {f : Nat → Int} (h : ∀ a, a < n → f a = 0) : rs n f = 0 := by
  induction n with
  | zero => rfl
  | succ n ih => rw [rs_succ, ih fun a ha => h a (by omega), h n (by omega)]; rfl
def bump (R : Nat → Nat → Int) (i j : Nat) (p : Int) : Nat → Nat → Int := fun a b => if a = i ∧ b = j then R a b + p else R a b
/-- the two rules in whole numbers, the one no fuller -/
structure Two (n : Nat) (us vs : List Int) : Prop where
  ul : us.length = n
  vl : vs.length = n
  u0 : ∀ u, u ∈ us → 0 ≤ u
  v0 : ∀ u, u ∈ vs → 0 ≤ u
  sum : us.sum = vs.sum
  dom : ∀ k, k ≤ n → (us.take k).sum ≤ (vs.take k).sum
structure PI (n : Nat) (us vs : List Int) (i j : Nat) (h t : Int) (R : Nat → Nat → Int) : Prop where
  il : i < n
  jl : j < n
  eq : (us.take (i + 1)).sum - h = (vs.take (j + 1)).sum - t
  h0 : 0 ≤ h
  h1 : h ≤ us.getD i 0
  t0 : 0 ≤ t
  t1 : t ≤ vs.getD j 0
  row : ∀ a, a < n → rs n (R a) = if a < i then us.getD a 0 else if a = i then us.getD i 0 - h else 0
  col : ∀ b, b < n → rs n (fun a => R a b) = if b < j then vs.getD b 0 else if b = j then vs.getD j 0 - t else 0
  ge : ∀ a b, 0 ≤ R a b
  sup : ∀ a b, b < n → a < b → R a b = 0
section
variable {n : Nat} {us vs : List Int} {i j : Nat} {h t : Int} {R : Nat → Nat → Int}
theorem getD_ge {xs : List Int} (h : ∀ x, x ∈ xs → 0 ≤ x) (i : Nat) : 0 ≤ xs.getD i 0 := by
  by_cases hi : i < xs.length
  · rw [getD_get hi]
    exact h _ (List.getElem_mem hi)
  · rw [List.getD_eq_getElem?_getD, List.getElem?_eq_none (by omega)]
    exact Int.le_refl _
theorem bump_row (hj : j < n) (a : Nat) {p : Int} : rs n (bump R i j p a) = rs n (R a) + if a = i then p else 0 := by
  by_cases ha : a = i
  · rw [if_pos ha]
    have := rs_upd (f := R a) (j := j) (p := p) n
    rw [if_pos hj] at this
    rw [← this]
    exact rs_congr fun b _ => by
      unfold bump
      simp [ha]
  · rw [if_neg ha, Int.add_zero]
    exact rs_congr fun b _ => by
      unfold bump
      simp [ha]
theorem bump_col (hi : i < n) (b : Nat) {p : Int} : rs n (fun a => bump R i j p a b) = rs n (fun a => R a b) + if b = j then p else 0 := by
  by_cases hb : b = j
  · rw [if_pos hb]
    have := rs_upd (f := fun a => R a b) (j := i) (p := p) n
    rw [if_pos hi] at this
    rw [← this]
    exact rs_congr fun a _ => by
      unfold bump
      simp [hb]
  · rw [if_neg hb, Int.add_zero]
    exact rs_congr fun a _ => by
      unfold bump
      simp [hb]
theorem PI.start (T : Two n us vs) (hn : 0 < n) : PI n us vs 0 0 (us.getD 0 0) (vs.getD 0 0) (fun _ _ => 0) := by
  have h4 := sum_takeD (xs := us) (i := 0) (by rw [T.ul]; omega)
  have h5 := sum_takeD (xs := vs) (i := 0) (by rw [T.vl]; omega)
  have h6 := getD_ge T.u0 0
  have h7 := getD_ge T.v0 0
  rw [List.take_zero, List.sum_nil] at h4 h5
  refine ⟨hn, hn, by omega, h6, Int.le_refl _, h7, Int.le_refl _, fun a ha => ?_, fun b hb => ?_, fun _ _ => Int.le_refl _, fun _ _ _ _ => rfl⟩
  · rw [rs_zero fun _ _ => rfl, if_neg (by omega)]
    split <;> omega
  · rw [rs_zero fun _ _ => rfl, if_neg (by omega)]
    split <;> omega
end
end Vm
namespace Vm
open PySem L2 PySem.Spec PyProof.Rows
/-! ### the pairing told: the walk -/
theorem bs_le {K : Nat} {a N : Int} (h0 : 0 ≤ a) (h1 : a ≤ N) (b : Bs K N) : Bs K a := by
  unfold Bs at *
  omega
theorem IR.at {K n : Nat} {M : Int} {ds : List D} {us : List Int} (h : IR K M n ds us) {i : Nat} (hi : i < n) : ∃ d, opIx (.d (.tuple ds)) (.d (.int (i : Nat))) = some (.d d) ∧ ds[i]? = some d ∧ Tell K d ((us.getD i 0 : Int) / (M : Rat)) := by
  have hl := h.len
  have hu := h.ulen
  have g : ds[i]? = some (ds[i]'(by omega)) := List.getElem?_eq_getElem (by omega)
  refine ⟨ds[i]'(by omega), opIx_t (atI_nat (by omega) (by rw [Int.toNat_natCast]; exact g)), g, ?_⟩
  rw [getD_get (by omega)]
  exact h.tell i _ _ g (List.getElem?_eq_getElem (by omega))
theorem IR.le {K n : Nat} {M : Int} {ds : List D} {us : List Int} (h : IR K M n ds us) (i : Nat) : 0 ≤ us.getD i 0 ∧ us.getD i 0 ≤ M := by
  refine ⟨getD_ge h.ge i, ?_⟩
  by_cases hi : i < us.length
  · rw [getD_get hi, ← h.sum]
    exact mem_le_sum h.ge _ (List.getElem_mem hi)
  · rw [List.getD_eq_getElem?_getD, List.getElem?_eq_none (by omega)]
    have := h.m1
    show (0 : Int) ≤ M
    omega
/-- the rows of a table -/
abbrev rwT (n : Nat) (τ : Nat → Nat → D) (a : Nat) : List D := (List.range n).map (τ a)
end Vm
namespace Vm
open PySem L2 PySem.Spec PyProof.Rows
/-! ### the pairing told; what is a pairing -/
abbrev tbD (n : Nat) (τ : Nat → Nat → D) : D := .tuple ((List.range n).map fun a => .tuple (rwT n τ a))
/-! ### any thing -/
def partB : D → Bool
  | .tuple [.int p, .int q] => decide (0 < q ∧ Int.gcd p q = 1 ∧ 0 ≤ p)
  | _ => false
def cell (d : D) (a b : Nat) : D := match d with
  | .tuple rows => match rows.getD a .none with
    | .tuple ps => ps.getD b .none
    | _ => .none
  | _ => .none
end Vm
namespace Vm
open PySem L2 PySem.Spec PyProof.Rows
/-! ### whether a thing pairs two rules -/
structure TabIs (K n : Nat) (d : D) (τ : Nat → Nat → D) : Prop where
  e : d = tbD n τ
  c : τ = cell d
  t : ∀ a b, a < n → b < n → Tell K (τ a b) (ratD (τ a b))
  sh : ∀ a b, a < n → b < n → partB (τ a b) = true
section
variable {K n : Nat} {d : D} {τ : Nat → Nat → D}
theorem TabIs.row (T : TabIs K n d τ) {i : Nat} (hi : i < n) : opIx (.d d) (.d (.int (i : Nat))) = some (.d (.tuple (rwT n τ i))) := by
  rw [T.e]
  exact opIx_t (atI_nat (by omega) (by rw [Int.toNat_natCast]; simp [hi]))
end
theorem Rt.at {K n : Nat} {ds : List D} {xs : List Rat} (h : Rt K n ds xs) {i : Nat} (hi : i < n) : ∃ d, opIx (.d (.tuple ds)) (.d (.int (i : Nat))) = some (.d d) ∧ ds[i]? = some d ∧ Tell K d (xs.getD i 0) := by
  have hl := h.len
  have hu := h.xlen
  have g : ds[i]? = some (ds[i]'(by omega)) := List.getElem?_eq_getElem (by omega)
  have gx : xs[i]? = some (xs[i]'(by omega)) := List.getElem?_eq_getElem (by omega)
  refine ⟨ds[i]'(by omega), opIx_t (atI_nat (by omega) (by rw [Int.toNat_natCast]; exact g)), g, ?_⟩
  rw [List.getD_eq_getElem?_getD, gx]
  exact h.tell i _ _ g gx
end Vm
namespace Vm
open PySem L2 PySem.Spec PyProof.Rows
/-! ### rules drawn, over whole bottoms -/
/-- a pair of rules over one bottom -/
structure PairQ (q : List D × List D) : Prop where
  ex : ∃ n N us vs, 1 ≤ n ∧ n ≤ 12 ∧ IR 40 N n q.1 us ∧ IR 40 N n q.2 vs
theorem PairQ.swap {q : List D × List D} (h : PairQ q) : PairQ (q.2, q.1) := by
  obtain ⟨n, N, us, vs, a, b, c, d⟩ := h.ex
  exact ⟨n, N, vs, us, a, b, d, c⟩
/-! ### the pairing told passes -/
end Vm
namespace Vm
open PySem L2 PySem.Spec PyProof.Rows
/-! ### rules drawn (C) by whole weights -/
theorem rs_tel {f : Nat → Int} : ∀ n : Nat, rs n (fun i => f (i + 1) - f i) = f n - f 0
  | 0 => by simp [rs]
  | n + 1 => by
    rw [rs_succ, rs_tel n]
    omega
end Vm
namespace Vm
open PySem L2 PySem.Spec PyProof.Rows
/-! ### a common bottom; loads and spreads drawn (C) -/
/-! ### loads drawn -/
/-- sorted cuts from nought to b -/
structure Cuts (n : Nat) (b : Int) (cs : List Int) : Prop where
  len : cs.length = n + 1
  pw : cs.Pairwise (· ≤ ·)
  e : cs.getD n 0 - cs.getD 0 0 = b
  bd : ∀ c, c ∈ cs → 0 ≤ c ∧ c ≤ b
theorem Cuts.ld {n : Nat} {b : Int} {cs : List Int} (h : Cuts n b cs) : Ld n b (sortD ((List.range n).map fun i => cs.getD (i + 1) 0 - cs.getD i 0)) := by
  refine ⟨by rw [sortD_len]; simp, fun x hx => ?_, ?_, sortD_pw _⟩
  · obtain ⟨i, hi, rfl⟩ := List.mem_map.mp (sortD_mem.mp hx)
    have hi := List.mem_range.mp hi
    have hl := h.len
    have := List.pairwise_iff_getElem.mp h.pw i (i + 1) (by omega) (by omega) (by omega)
    rw [getD_get (show i + 1 < cs.length by omega), getD_get (show i < cs.length by omega)]
    omega
  · rw [sortD_sum]
    exact (rs_tel (f := fun i => cs.getD i 0) n).trans h.e
end Vm
namespace Vm
open PySem L2 PySem.Spec PyProof.Rows
/-! ### spreads drawn (C) -/
/-- weights of at most so many loads -/
structure CnD (n : Nat) (b : Int) (i : Nat) (F : List (List Int × Int)) : Prop where
  nd : (keys F).Nodup
  ld : ∀ k, k ∈ keys F → Ld n b k
  w : ∀ k, k ∈ keys F → 1 ≤ wt F k ∧ wt F k ≤ 100
  len : F.length ≤ i
  ne : 1 ≤ i → keys F ≠ []
theorem wt_aput {F : List (List Int × Int)} {k t : List Int} {v : Int} : wt (aput F k v) t = if t = k then v else wt F t := by
  unfold wt
  rw [aget_aput]
  split <;> rfl
theorem CnD.put {n : Nat} {b : Int} {i : Nat} {F : List (List Int × Int)} {k : List Int} {v : Int} (h : CnD n b i F) (hk : Ld n b k) (v1 : 1 ≤ v) (v2 : v ≤ 100) : CnD n b (i + 1) (aput F k v) := by
  refine ⟨nodup_aput h.nd, fun t ht => ?_, fun t ht => ?_, ?_, fun _ z => ?_⟩
  · rcases mem_aput.mp ht with ht | rfl
    · exact h.ld t ht
    · exact hk
  · rw [wt_aput]
    split
    · exact ⟨v1, v2⟩
    · rcases mem_aput.mp ht with ht | ht
      · exact h.w t ht
      · contradiction
  · have := aput_len (F := F) (k := k) (v := v)
    have := h.len
    omega
  · have : k ∈ keys (aput F k v) := mem_aput.mpr (.inr rfl)
    rw [z] at this
    cases this
theorem CnD.sum {n : Nat} {b : Int} {i : Nat} {F : List (List Int × Int)} (h : CnD n b i F) (i1 : 1 ≤ i) : 1 ≤ sumW F ∧ sumW F ≤ 100 * (i : Int) := by
  rw [← sum_keys h.nd]
  have kl : (keys F).length = F.length := by unfold keys; rw [List.length_map]
  have hl := h.len
  constructor
  · obtain ⟨k, ks, e⟩ : ∃ k ks, keys F = k :: ks := by
      cases e : keys F with
      | nil => exact absurd e (h.ne i1)
      | cons a l => exact ⟨a, l, rfl⟩
    have h1 := h.w k (by rw [e]; exact List.mem_cons_self ..)
    have h2 := mem_le_sum (xs := (keys F).map (wt F)) (fun x hx => by
      obtain ⟨t, ht, rfl⟩ := List.mem_map.mp hx
      have := h.w t ht
      omega) (wt F k) (List.mem_map_of_mem (by rw [e]; exact List.mem_cons_self ..))
    omega
  · have := isum_le (ws := (keys F).map (wt F)) (b := 100) fun x hx => by
      obtain ⟨t, ht, rfl⟩ := List.mem_map.mp hx
      exact (h.w t ht).2
    rw [List.length_map, kl] at this
    omega
theorem CnD.ldF {n : Nat} {b : Int} {i : Nat} {F : List (List Int × Int)} (h : CnD n b i F) (n1 : 1 ≤ n) : LdF n b F := ⟨n1, fun k hk => (h.ld k hk).len, fun k hk => (h.ld k hk).pos, fun k hk => (h.ld k hk).sum⟩
theorem CnD.wok {n : Nat} {b : Int} {i : Nat} {F : List (List Int × Int)} (h : CnD n b i F) (n1 : 1 ≤ n) (i1 : 1 ≤ i) (i2 : i ≤ 5) : WOk 10 F := by
  obtain ⟨s1, s2⟩ := h.sum i1
  have hl := h.len
  refine ⟨h.nd, fun k hk z => ?_, by omega, fun k hk => ?_, fun k hk => ?_, s1, show (sumW F).natAbs < 2 ^ 10 by omega⟩
  · have := (h.ld k hk).len
    rw [z] at this
    simp at this
    omega
  · have := h.w k hk
    omega
  · have := h.w k hk
    show (wt F k).natAbs < 2 ^ 10
    omega
end Vm
namespace Vm
open PySem L2 PySem.Spec PyProof.Rows
/-! ### lists beside an empty one: their items are not looked at -/
def opNeE : Od → Od → Option Rv
  | .d (.list L), .d (.list []) => some (.d (.bool (!L.isEmpty)))
  | x, y => opNe x y
@[simp] theorem opNeE_nil {L : List D} : opNeE (.d (.list L)) (.d (.list [])) = some (.d (.bool (!L.isEmpty))) := rfl
/-! ### comprehensions over a thing whose elements are data or cells -/
end Vm
namespace Vm
open PySem L2 PySem.Spec PyProof.Rows
/-! ### dicts whose keys are tuples of tuples of whole numbers -/
@[simp] theorem odC_g {x : GX} : odC (some (.g x)) = some (.c (.g x)) := Eq.trans rfl rfl
mutual
def nkD? : D → Option NestedKey
  | .int i => some (.num i)
  | .tuple ds => match nkDs? ds with
    | some ks => some (.tup ks)
    | none => none
  | .none => none
  | .bool _ => none
  | .str _ => none
  | .list _ => none
  | .dict _ => none
def nkDs? : List D → Option (List NestedKey)
  | [] => some []
  | d :: ds => match nkD? d, nkDs? ds with
    | some k, some ks => some (k :: ks)
    | _, _ => none
end
def nkK? : D → Option NestedKey
  | .tuple ds => match nkDs? ds with
    | some ks => if (NestedKey.tup ks).depth ≤ 8 then some (.tup ks) else none
    | none => none
  | _ => none
/-! ### what stands in the heap -/
section
variable {X : Cx} {pins : List (Addr × Obj)} {σ : L2.St} {H : Hp} {s : Shared}
def putN (kas : List (NestedKey × Addr × V)) (k : NestedKey) (b : Addr) (v : V) : List (NestedKey × Addr × V) :=
  if (kas.any fun x => decide (x.1 = k)) = true then kas.map (fun x => if x.1 = k then (x.1, x.2.1, v) else x) else kas ++ [(k, b, v)]
theorem putN_len {kas : List (NestedKey × Addr × V)} {k : NestedKey} {b : Addr} {v : V} : (putN kas k b v).length ≤ kas.length + 1 := by
  unfold putN
  split
  · rw [List.length_map]
    omega
  · rw [List.length_append]
    exact Nat.le_refl _
theorem putN_keys {kas : List (NestedKey × Addr × V)} {k : NestedKey} {b : Addr} {v : V} (h : (kas.map (·.1)).Nodup) : ((putN kas k b v).map (·.1)).Nodup := by
  unfold putN
  split
  · rw [List.map_map]
    have e : (kas.map ((fun x => x.1) ∘ fun x : NestedKey × Addr × V => if x.1 = k then (x.1, x.2.1, v) else x)) = kas.map (·.1) := List.map_congr_left fun x _ => by
      show (if x.1 = k then (x.1, x.2.1, v) else x).1 = x.1
      split <;> rfl
    rw [e]
    exact h
  · rename_i z
    rw [List.map_append, List.nodup_append]
    refine ⟨h, by simp, fun a ha c hc => ?_⟩
    cases List.mem_singleton.mp (show c ∈ [k] from hc)
    intro e
    subst e
    obtain ⟨x, hx, e⟩ := List.mem_map.mp ha
    exact z (List.any_eq_true.mpr ⟨x, hx, decide_eq_true e⟩)
theorem NkG.put {kas : List (NestedKey × Addr × V)} {a : Addr} {k : NestedKey} {b : Addr} {v : V} (g : NkG kas a) (hl : kas.length < sizeLine) : NkG (putN kas k b v) a :=
  ⟨by have := @putN_len kas k b v; omega, g.2.1, putN_keys g.2.2⟩
variable {A : Around} {E : Value → Shared → Prop} {a : Addr} {y v : V} {u r : Value} {o : Option V}
/-! ### the rules -/
end
end Vm
namespace Vm
open PySem L2 PySem.Spec PyProof.Rows
/-! ### the closures of dicts with nested keys -/
def cNewN : CE := fun s => .ok (.new (.g (.n []))) s
@[simp] theorem cNewN_s {s : S} : cNewN s = .ok (.new (.g (.n []))) s := Eq.trans rfl rfl
section
variable {X : Cx} {ec : EC} {W : WX}
/-! ### locked: data from then on -/
/-! ### reading -/
def getN (es : List (D × D)) (k : NestedKey) : Option D := (es.find? fun e => decide (nkD? e.1 = some k)).map (·.2)
def lookN : Od → Od → Option (Option D)
  | .c (.g (.n kvs)), .d x => match nkK? x with
    | some k => some (getD kvs k)
    | none => none
  | .d (.dict ((.list [.none], .none) :: es)), .d x => match nkK? x with
    | some k => some (getN es k)
    | none => none
  | _, _ => none
/-! ### for k in d -/
/-! ### d.get(k, x) -/
def dctN : Od → Bool
  | .c (.g (.n _)) => true
  | _ => false
def kGetN4 (o k d : Rv) (s3 : S) : R Rv := opt (o.od s3.m) fun oo => opt (k.od s3.m) fun kk => opt (lookN oo kk) fun r => match r, d with
  | some x, _ => .ok (.d x) s3
  | none, .d y => .ok (.d y) s3
  | _, _ => .bad
def kGetN2 (cd : CE) (o : Rv) (k : Rv) (s2 : S) : R Rv := (cv cd s2).bind (kGetN4 o k)
def kGetN1 (ck cd : CE) (o : Rv) (s1 : S) : R Rv := opt (o.od s1.m) fun o1 => if dctN o1 = true then (cv ck s1).bind (kGetN2 cd o) else .bad
def cGetN (co ck cd : CE) : CE := fun s => (cv co s).bind (kGetN1 ck cd)
/-! ### d[k] = v -/
end
/-! ### their values -/
@[simp] theorem cGetN_s {co ck cd : CE} {s : S} : cGetN co ck cd s = (cv co s).bind (kGetN1 ck cd) := Eq.trans rfl rfl
@[simp] theorem kGetN2_s {cd : CE} {o k : Rv} {s2 : S} : kGetN2 cd o k s2 = (cv cd s2).bind (kGetN4 o k) := Eq.trans rfl rfl
@[simp] theorem kGetN1_c {ck cd : CE} {n : Nat} {kvs : List (NestedKey × D)} {s1 : S} (h : s1.m[n]? = some (.g (.n kvs))) : kGetN1 ck cd (.ref n) s1 = (cv ck s1).bind (kGetN2 cd (.ref n)) := by
  unfold kGetN1
  rw [od_ref, h, odC_g]
  rfl
end Vm
namespace Vm
open PySem L2 PySem.Spec PyProof.Rows
/-! ### joint spreads: lines of two loads and a share -/
abbrev JL := List Int × List Int × Int × Int
def ratJ (r : JL) : Rat := (r.2.2.1 : Rat) / (r.2.2.2 : Int)
end Vm
namespace Vm
open PySem L2 PySem.Spec PyProof.Rows
/-! ### loads drawn ball by ball -/
/-! ### which is no fuller, by the law's own look -/
/-! ### pairs of loads in order -/
abbrev P2 := List Int × List Int
def ltP (x y : P2) : Prop := x.1 < y.1 ∨ (x.1 = y.1 ∧ x.2 < y.2)
def leP (x y : P2) : Prop := x.1 < y.1 ∨ (x.1 = y.1 ∧ x.2 ≤ y.2)
instance (x y : P2) : Decidable (ltP x y) := inferInstanceAs (Decidable (_ ∨ _))
instance (x y : P2) : Decidable (leP x y) := inferInstanceAs (Decidable (_ ∨ _))
def sortP (ks : List P2) : List P2 := ks.mergeSort fun x y => decide (leP x y)
theorem sortP_perm (ks : List P2) : (sortP ks).Perm ks := List.mergeSort_perm _ _
theorem sortP_mem {ks : List P2} {k : P2} : k ∈ sortP ks ↔ k ∈ ks := (sortP_perm ks).mem_iff
end Vm
namespace Vm
open PySem L2 PySem.Spec PyProof.Rows
/-! ### what is kept by keys of any kind -/
section
variable {κ β : Type} [DecidableEq κ]
def gget (F : List (κ × β)) (k : κ) : Option β := (F.find? fun e => decide (e.1 = k)).map (·.2)
def gkeys (F : List (κ × β)) : List κ := F.map (·.1)
end
/-! ### pairs of loads as keys -/
@[simp] theorem setMR_g {i : Nat} {x : GX} {s1 : S} : setMR i (.new (.g x)) s1 = .nx ⟨s1.v.set i (.c s1.m.length), s1.m ++ [.g x]⟩ := Eq.trans rfl rfl
end Vm
namespace Vm
open PySem L2 PySem.Spec PyProof.Rows
section
variable {X : Cx} {ec : EC} {W : WX}
/-! ### try: .., except x: one statement -/
/-! ### a, b, c = x, y, z -/
def cPar3 (i j l : Nat) (a b c : CE) : CS := fun s => (cv a s).out fun x s1 => (cv b s1).out fun y s2 => (cv c s2).out fun z s3 => match slOf x, slOf y, slOf z with
  | some p, some q, some r => .nx ⟨((s3.v.set i p).set j q).set l r, s3.m⟩
  | _, _, _ => .bad
/-! ### simp lemmas -/
def parR3 (i j l : Nat) (x y z : Rv) (s3 : S) : Out := match slOf x, slOf y, slOf z with
  | some p, some q, some r => .nx ⟨((s3.v.set i p).set j q).set l r, s3.m⟩
  | _, _, _ => .bad
@[simp] theorem parR3_d {i j l : Nat} {x y z : D} {s : S} : parR3 i j l (.d x) (.d y) (.d z) s = .nx ⟨((s.v.set i (.d x)).set j (.d y)).set l (.d z), s.m⟩ := Eq.trans rfl rfl
def kPar3b (i j l : Nat) (c : CE) (x y : Rv) (s2 : S) : Out := (cv c s2).out (parR3 i j l x y)
@[simp] theorem kPar3b_s {i j l : Nat} {c : CE} {x y : Rv} {s : S} : kPar3b i j l c x y s = (cv c s).out (parR3 i j l x y) := Eq.trans rfl rfl
def kPar3 (i j l : Nat) (b c : CE) (x : Rv) (s1 : S) : Out := (cv b s1).out (kPar3b i j l c x)
@[simp] theorem kPar3_s {i j l : Nat} {b c : CE} {x : Rv} {s : S} : kPar3 i j l b c x s = (cv b s).out (kPar3b i j l c x) := Eq.trans rfl rfl
@[simp] theorem cPar3_s {i j l : Nat} {a b c : CE} {s : S} : cPar3 i j l a b c s = (cv a s).out (kPar3 i j l b c) := Eq.trans rfl rfl
end
end Vm
namespace Vm
open PySem L2
/-! ### the fifth draw: a feed for each number of the script -/
def feedE (g c s : Int) : Cell := .l [.int g, .int c, .int s]
structure IsFeed (B : Nat) (p : Cell) : Prop where
  ex : ∃ g c s, p = feedE g c s ∧ 0 ≤ g ∧ 0 ≤ c ∧ c < 2147483629 ∧ 0 ≤ s ∧ s ≤ B
theorem IsFeed.mono {B C : Nat} {p : Cell} (h : IsFeed B p) (hb : B ≤ C) : IsFeed C p := by
  obtain ⟨g, c, s, h1, h2, h3, h4, h5, h6⟩ := h.ex
  exact ⟨g, c, s, h1, h2, h3, h4, h5, by omega⟩
end Vm
namespace Vm
open PySem L2
/-! ### lowest terms, the fourth way -/
/-- a share of w over W -/
def gI (w W : Int) : Int := ((Nat.gcd w.natAbs W.natAbs : Nat) : Int)
def lw (w W : Int) : D := shD (w / gI w W) (W / gI w W)
theorem gI_pos {w W : Int} (h : 1 ≤ W) : 1 ≤ gI w W := by
  have : 0 < Nat.gcd w.natAbs W.natAbs := Nat.gcd_pos_of_pos_right _ (by omega)
  unfold gI
  omega
theorem gI_le {w W : Int} (h : 1 ≤ W) : gI w W ≤ W := by
  have : Nat.gcd w.natAbs W.natAbs ≤ W.natAbs := Nat.gcd_le_right _ (by omega)
  unfold gI
  omega
theorem divI {a w W : Int} {K : Nat} (h : 1 ≤ W) (hb : Bs K W) (hK : K ≤ 8900) : opDiv (.d (.int a)) (.d (.int (gI w W))) = some (.d (.int (a / gI w W))) := by
  have g1 := gI_pos (w := w) h
  have g2 := gI_le (w := w) h
  refine opDiv_i (by omega) ?_
  have : (gI w W).natAbs < 2 ^ K := Nat.lt_of_le_of_lt (by omega) hb
  exact Nat.lt_of_le_of_lt (Nat.le_of_lt_succ (by
    have := (Nat.log2_lt (by omega : (gI w W).natAbs ≠ 0)).mpr this
    omega)) (by omega : K < 9000)
theorem lw_tell {w W : Int} {K : Nat} (h0 : 0 ≤ w) (h : 1 ≤ W) (hw : Bs K w) (hb : Bs K W) (hK : K ≤ 8900) : Tell K (lw w W) ((w : Rat) / W) := by
  obtain ⟨p, q, e, s, r⟩ := lowest_ok h0 h hw hb hK
  have e1 := measure_ok (a := w.natAbs) (b := W.natAbs) (k := K) hb (by omega)
  rw [show ((w.natAbs : Nat) : Int) = w by omega, show ((W.natAbs : Nat) : Int) = W by omega] at e1
  have d1 := divI (a := w) (w := w) h hb hK
  have d2 := divI (a := W) (w := w) h hb hK
  have e2 : fLawLowest [.d (.int w), .d (.int W)] [] = .ok (.d (lw w W)) [] := by
    unfold fLawLowest
    rw [runF_s]
    show fin [] (cLawLowest _) = _
    have e1 : fMeasure [.d (.int w), .d (.int W)] [] = .ok (.d (.int (gI w W))) [] := e1
    unfold lw
    generalize gI w W = g at *
    simp [cLawLowest, e1, d1, d2]
    rfl
  rw [e2] at e
  injection e with e
  injection e with e
  rw [Nat.max_self] at s
  rw [e]
  refine ⟨p, q, rfl, s, ?_⟩
  have := rat_ne h
  have r' : (p : Rat) * (W : Int) = (w : Int) * (q : Int) := by
    rw [← Rat.intCast_mul, ← Rat.intCast_mul, r]
  grind
/-! ### a spread by whole weights -/
/-! ### one side of rows, as a spread -/
end Vm
namespace Vm
open PySem L2
/-! ### weights put together by pairs -/
section
variable {κ : Type} [DecidableEq κ]
def gwt (F : List (κ × Int)) (k : κ) : Int := (gget F k).getD 0
def gsum (F : List (κ × Int)) : Int := (F.map (·.2)).sum
/-- what the events E give to k -/
def gev (E : List (κ × Int)) (k : κ) : Int := (E.map fun e => if e.1 = k then e.2 else 0).sum
end
/-! ### a joint spread by rows -/
end Vm
namespace Vm
open PySem L2
/-! ### shares added up by loads -/
/-- the spread of the weights F over the bottom N -/
def spN (N : Int) (F : List (List Int × Int)) : List D := (sortL (keys F)).map fun k => rowD k (lw (wt F k) N)
end Vm
namespace Vm
open PySem L2
/-! ### two spreads of one kind -/
/-! ### the two parts of a joint spread -/
def selJ (z : Bool) (l : JL) : List Int := if z then l.2.1 else l.1
/-- a line's share over the bottom N -/
def aJ (N : Int) (l : JL) : Int := l.2.2.1 * (N / l.2.2.2)
def evJ (z : Bool) (N : Int) (L : List JL) : List (List Int × Int) := L.map fun l => (selJ z l, aJ N l)
/-- lines whose shares all have the bottom N -/
structure OverN (K : Nat) (N : Int) (L : List JL) : Prop where
  n1 : 1 ≤ N
  bN : Bs K N
  k1 : 1 ≤ K
  p : ∀ l, l ∈ L → 0 ≤ l.2.2.1
  q : ∀ l, l ∈ L → 1 ≤ l.2.2.2
  g : ∀ l, l ∈ L → Int.gcd l.2.2.1 l.2.2.2 = 1
  dv : ∀ l, l ∈ L → l.2.2.2 ∣ N
  bs : Bs K ((L.map (aJ N)).sum)
  ln : L.length ≤ 100000
theorem aJ_rat {N : Int} {l : JL} (q : 1 ≤ l.2.2.2) (d : l.2.2.2 ∣ N) (n1 : 1 ≤ N) : ((aJ N l : Int) : Rat) / N = ratJ l := by
  obtain ⟨c, hc⟩ := d
  have e : N / l.2.2.2 = c := by rw [hc, Int.mul_ediv_cancel_left _ (by omega)]
  have h1 := rat_ne n1
  have h2 := rat_ne q
  unfold aJ ratJ
  rw [e, Rat.intCast_mul]
  have hN : (N : Rat) = (l.2.2.2 : Rat) * c := by rw [hc, Rat.intCast_mul]
  rw [hN] at h1 ⊢
  have h3 : (c : Rat) ≠ 0 := fun z => h1 (by rw [z, Rat.mul_zero])
  grind
theorem aJ_pos {K : Nat} {N : Int} {L : List JL} (h : OverN K N L) {l : JL} (hl : l ∈ L) : 0 ≤ aJ N l := Int.mul_nonneg (h.p l hl) (Int.ediv_nonneg (by have := h.n1; omega) (by have := h.q l hl; omega))
theorem aJ_le {K : Nat} {N : Int} {L : List JL} (h : OverN K N L) {l : JL} (hl : l ∈ L) : Bs K (aJ N l) := by
  have h0 := aJ_pos h hl
  refine h.bs.le ?_
  have : aJ N l ≤ (L.map (aJ N)).sum := mem_le_sum (fun x hx => by
    obtain ⟨m, hm, rfl⟩ := List.mem_map.mp hx
    exact aJ_pos h hm) _ (List.mem_map_of_mem hl)
  omega
theorem OverN.tell {K : Nat} {N : Int} {L : List JL} (h : OverN K N L) {l : JL} (hl : l ∈ L) : Tell K (shD l.2.2.1 l.2.2.2) ((aJ N l : Rat) / N) := by
  have q := h.q l hl
  have t : Tell (max K (max l.2.2.1.natAbs l.2.2.2.natAbs)) (shD l.2.2.1 l.2.2.2) (ratJ l) := by
    refine ⟨_, _, rfl, ⟨q, h.g l hl, Nat.lt_of_lt_of_le Nat.lt_two_pow_self (Nat.pow_le_pow_right (by decide) (by omega)), Nat.lt_of_lt_of_le Nat.lt_two_pow_self (Nat.pow_le_pow_right (by decide) (by omega))⟩, ?_⟩
    have := rat_ne q
    unfold ratJ
    grind
  rw [← aJ_rat q (h.dv l hl) h.n1] at t
  exact tell_tight t h.n1 (aJ_le h hl) h.bN h.k1
end Vm
namespace PySem.W
open Lean Elab Tactic Meta PySem PySem.Calls PyProof.Rows PyProof.V PySem.Spec
end PySem.W
namespace Vm
open PySem L2
/-! ### weights by loads compared -/
theorem aget_nd : ∀ {F : List (List Int × Int)} {p : List Int × Int}, (keys F).Nodup → p ∈ F → aget F p.1 = some p.2
  | [], _, _, h => by cases h
  | a :: F, p, nd, h => by
    have nd : (a.1 :: keys F).Nodup := nd
    rw [List.nodup_cons] at nd
    rw [aget_cons]
    rcases List.mem_cons.mp h with rfl | h
    · rw [if_pos rfl]
    · have : a.1 ≠ p.1 := fun z => nd.1 (z ▸ List.mem_map_of_mem (f := (·.1)) h)
      rw [if_neg this]
      exact aget_nd nd.2 h
end Vm
namespace Vm
open PySem L2
/-! ### a joint spread by the law's own look: behind the rows' looks -/
abbrev RowP := List Int × Int × Int
end Vm
namespace Vm
open PySem L2
/-! ### weights as shares -/
/-- what lines give to k, as a share -/
def ratK (z : Bool) (L : List JL) (k : List Int) : Rat := (L.map fun l => if selJ z l = k then ratJ l else 0).sum
def ratP (A : List RowP) (k : List Int) : Rat := (A.map fun r => if r.1 = k then ((r.2.1 : Int) : Rat) / ((r.2.2 : Int) : Rat) else 0).sum
/-- one side of the lines is the spread A -/
structure SameR (z : Bool) (L : List JL) (A : List RowP) : Prop where
  ks : ∀ k, (∃ l, l ∈ L ∧ selJ z l = k) ↔ ∃ r, r ∈ A ∧ r.1 = k
  ws : ∀ k, ratK z L k = ratP A k
end Vm
namespace Vm
open PySem L2
/-! ### the law's look and the program's -/
def raP (r : RowP) : Rat := ((r.2.1 : Int) : Rat) / ((r.2.2 : Int) : Rat)
/-- a spread of n boxes and b balls, its rows rising -/
structure SpA (n : Nat) (b : Int) (A : List RowP) : Prop where
  ne : A ≠ []
  pw : (A.map (·.1)).Pairwise (· < ·)
  ld : ∀ r, r ∈ A → loadB (ldD r.1) = true
  ln : ∀ r, r ∈ A → r.1.length = n
  sm : ∀ r, r ∈ A → r.1.sum = b
  p : ∀ r, r ∈ A → 1 ≤ r.2.1
  q : ∀ r, r ∈ A → 1 ≤ r.2.2
  g : ∀ r, r ∈ A → Int.gcd r.2.1 r.2.2 = 1
  one : (A.map raP).sum = 1
theorem SpA.nd {n : Nat} {b : Int} {A : List RowP} (h : SpA n b A) : (A.map (·.1)).Nodup := h.pw.imp fun {a b} hlt e => absurd hlt (by rw [e]; exact List.lt_irrefl b)
theorem sum_ite {ks : List (List Int)} {t : List Int} {x : Rat} (nd : ks.Nodup) (h : t ∈ ks) : (ks.map fun k => if t = k then x else 0).sum = x := by
  induction ks with
  | nil => cases h
  | cons k ks ih =>
    rw [List.nodup_cons] at nd
    rw [List.map_cons, List.sum_cons]
    have zero : ∀ ks : List (List Int), t ∉ ks → (ks.map fun k => if t = k then x else 0).sum = 0 := fun ks => by
      induction ks with
      | nil => exact fun _ => rfl
      | cons k ks ih =>
        intro hn
        rw [List.map_cons, List.sum_cons, ih fun z => hn (List.mem_cons_of_mem _ z), if_neg (fun z => hn (by rw [z]; exact List.mem_cons_self ..)), Rat.add_zero]
    by_cases e : t = k
    · subst e
      rw [if_pos rfl, zero ks nd.1, Rat.add_zero]
    · rw [if_neg e, Rat.zero_add]
      exact ih nd.2 ((List.mem_cons.mp h).resolve_left e)
theorem sum_add (ks : List (List Int)) (f g : List Int → Rat) : (ks.map fun k => f k + g k).sum = (ks.map f).sum + (ks.map g).sum := by
  induction ks with
  | nil => rw [List.map_nil, List.map_nil, List.map_nil, List.sum_nil, Rat.add_zero]
  | cons k ks ih =>
    rw [List.map_cons, List.map_cons, List.map_cons, List.sum_cons, List.sum_cons, List.sum_cons, ih]
    grind
theorem sum_ratK {z : Bool} {ks : List (List Int)} (nd : ks.Nodup) : ∀ L : List JL, (∀ l, l ∈ L → selJ z l ∈ ks) → (ks.map (ratK z L)).sum = (L.map ratJ).sum
  | [], _ => by
    have : ∀ ks : List (List Int), (ks.map (ratK z [])).sum = 0 := fun ks => by
      induction ks with
      | nil => rfl
      | cons k ks ih =>
        rw [List.map_cons, List.sum_cons, ih, Rat.add_zero]
        rfl
    rw [this]
    rfl
  | l :: L, h => by
    have ih := sum_ratK nd L fun m hm => h m (List.mem_cons_of_mem _ hm)
    have e : ks.map (ratK z (l :: L)) = ks.map fun k => (if selJ z l = k then ratJ l else 0) + ratK z L k := List.map_congr_left fun k _ => by
      unfold ratK
      rw [List.map_cons, List.sum_cons]
    rw [e, sum_add ks (fun k => if selJ z l = k then ratJ l else 0) (ratK z L), ih, sum_ite nd (h l (List.mem_cons_self ..)), List.map_cons, List.sum_cons]
theorem ratP_at {A : List RowP} (nd : (A.map (·.1)).Nodup) {r : RowP} (h : r ∈ A) : ratP A r.1 = raP r := by
  unfold ratP
  induction A with
  | nil => cases h
  | cons a A ih =>
    have nd' : (a.1 :: A.map (·.1)).Nodup := nd
    rw [List.nodup_cons] at nd'
    rw [List.map_cons, List.sum_cons]
    have zero : ∀ B : List RowP, r.1 ∉ B.map (·.1) → (B.map fun s => if s.1 = r.1 then ((s.2.1 : Int) : Rat) / ((s.2.2 : Int) : Rat) else 0).sum = 0 := fun B => by
      induction B with
      | nil => exact fun _ => rfl
      | cons s B ih =>
        intro hn
        rw [List.map_cons, List.sum_cons, ih fun z => hn (List.mem_cons_of_mem _ z), if_neg (fun z => hn (by rw [← z]; exact List.mem_map_of_mem (List.mem_cons_self ..))), Rat.add_zero]
    rcases List.mem_cons.mp h with rfl | h
    · rw [if_pos rfl, zero A nd'.1, Rat.add_zero]
      rfl
    · have : a.1 ≠ r.1 := fun z => nd'.1 (z ▸ List.mem_map_of_mem (f := (·.1)) h)
      rw [if_neg this, Rat.zero_add]
      exact ih nd'.2 h
theorem SameR.sum {z : Bool} {L : List JL} {n : Nat} {b : Int} {A : List RowP} (h : SameR z L A) (hA : SpA n b A) : (L.map ratJ).sum = 1 := by
  have s := sum_ratK (z := z) hA.nd L fun l hl => by
    obtain ⟨r, hr, e⟩ := (h.ks (selJ z l)).mp ⟨l, hl, rfl⟩
    rw [← e]
    exact List.mem_map_of_mem hr
  rw [← s, List.map_map]
  have : A.map (ratK z L ∘ (·.1)) = A.map raP := List.map_congr_left fun r hr => by
    show ratK z L r.1 = raP r
    rw [h.ws, ratP_at hA.nd hr]
  rw [this]
  exact hA.one
theorem SameR.kind {z : Bool} {L : List JL} {n : Nat} {b : Int} {A : List RowP} (h : SameR z L A) (hA : SpA n b A) {l : JL} (hl : l ∈ L) : (selJ z l).length = n ∧ (selJ z l).sum = b := by
  obtain ⟨r, hr, e⟩ := (h.ks (selJ z l)).mp ⟨l, hl, rfl⟩
  rw [← e]
  exact ⟨hA.ln r hr, hA.sm r hr⟩
end Vm
namespace Vm
open PySem L2
/-! ### a joint spread by rows has its rows' sides -/
section
variable {κ : Type} [DecidableEq κ]
theorem sum_iteG {ks : List κ} {t : κ} {x : Int} (nd : ks.Nodup) (h : t ∈ ks) : (ks.map fun k => if t = k then x else 0).sum = x := by
  induction ks with
  | nil => cases h
  | cons k ks ih =>
    rw [List.nodup_cons] at nd
    rw [List.map_cons, List.sum_cons]
    have zero : ∀ ks : List κ, t ∉ ks → (ks.map fun k => if t = k then x else 0).sum = 0 := fun ks => by
      induction ks with
      | nil => exact fun _ => rfl
      | cons k ks ih =>
        intro hn
        rw [List.map_cons, List.sum_cons, ih fun z => hn (List.mem_cons_of_mem _ z), if_neg (fun z => hn (by rw [z]; exact List.mem_cons_self ..))]
        rfl
    by_cases e : t = k
    · subst e
      rw [if_pos rfl, zero ks nd.1]
      omega
    · rw [if_neg e, ih nd.2 ((List.mem_cons.mp h).resolve_left e)]
      omega
theorem sum_addG (ks : List κ) (f g : κ → Int) : (ks.map fun k => f k + g k).sum = (ks.map f).sum + (ks.map g).sum := by
  induction ks with
  | nil => rfl
  | cons k ks ih =>
    rw [List.map_cons, List.map_cons, List.map_cons, List.sum_cons, List.sum_cons, List.sum_cons, ih]
    omega
end
/-- the lines of a joint spread by rows -/
def linL (F : List (P2 × Int)) : List JL := (sortP (gkeys F)).map fun k => (k.1, k.2, gwt F k / gI (gwt F k) (gsum F), gsum F / gI (gwt F k) (gsum F))
end Vm
namespace Vm
open PySem L2
/-! ### the joint spread of rows is let by for its sides -/
theorem perm_sumE {as bs : List Int} (h : as.Perm bs) : as.sum = bs.sum := by
  induction h with
  | nil => rfl
  | cons a _ ih => rw [List.sum_cons, List.sum_cons, ih]
  | swap a b l =>
    rw [List.sum_cons, List.sum_cons, List.sum_cons, List.sum_cons]
    omega
  | trans _ _ i1 i2 => rw [i1, i2]
end Vm
namespace Vm
open PySem L2 PySem.Spec PyProof.Rows
/-! ### a call that is lent one list: it runs with this cell alone, wherever it stands -/
def RF.toQ (k : Nat) (s : S) : RF → R Rv
  | .ok (.d x) [.l ds] => .ok (.d x) ⟨s.v, s.m.set k (.l ds)⟩
  | .ok (.new c) [.l ds] => .ok (.new c) ⟨s.v, s.m.set k (.l ds)⟩
  | .ex e [.l ds] => .ex e ⟨s.v, s.m.set k (.l ds)⟩
  | _ => .bad
def goQ (f : Fn) (k : Nat) (as : List Sl) (s : S) : Option Cell → R Rv
  | some (.l ds) => (f (.c 0 :: as) [.l ds]).toQ k s
  | _ => .bad
def kCallQ (f : Fn) : List Sl → S → R Rv
  | .c k :: as, s => if as.all Sl.isD = true then goQ f k as s s.m[k]? else .bad
  | _, _ => .bad
def cCallQ (f : Fn) (cl : CL) : CE := fun s => (cl s).bind (kCallQ f)
@[simp] theorem cCallQ_s {f : Fn} {cl : CL} {s : S} : cCallQ f cl s = (cl s).bind (kCallQ f) := Eq.trans rfl rfl
@[simp] theorem kCallQ_s {f : Fn} {k : Nat} {as : List Sl} {s : S} : kCallQ f (.c k :: as) s = if as.all Sl.isD = true then goQ f k as s s.m[k]? else .bad := Eq.trans rfl rfl
@[simp] theorem goQ_s {f : Fn} {k : Nat} {as : List Sl} {s : S} {ds : List D} : goQ f k as s (some (.l ds)) = (f (.c 0 :: as) [.l ds]).toQ k s := Eq.trans rfl rfl
@[simp] theorem toQ_d {k : Nat} {s : S} {x : D} {ds : List D} : (RF.ok (.d x) [.l ds]).toQ k s = .ok (.d x) ⟨s.v, s.m.set k (.l ds)⟩ := Eq.trans rfl rfl
@[simp] theorem toQ_n {k : Nat} {s : S} {c : Cell} {ds : List D} : (RF.ok (.new c) [.l ds]).toQ k s = .ok (.new c) ⟨s.v, s.m.set k (.l ds)⟩ := Eq.trans rfl rfl
@[simp] theorem toQ_e {k : Nat} {s : S} {e : String} {ds : List D} : (RF.ex e [.l ds]).toQ k s = .ex e ⟨s.v, s.m.set k (.l ds)⟩ := Eq.trans rfl rfl
end Vm
namespace Vm
open PySem L2 PySem.Spec PyProof.Rows
/-! ### a feed lent from wherever it stands -/
theorem IsFeed.l {B : Nat} {p : Cell} (h : IsFeed B p) : ∃ ds, p = .l ds := by
  obtain ⟨g, c, s, rfl, _⟩ := h.ex
  exact ⟨_, rfl⟩
end Vm
namespace Vm
open PySem L2
/-! ### joint spreads gathered: shares of pairs of loads, added -/
def EvJ (K : Nat) (N : Int) (E : List (P2 × D)) (A : List (P2 × Int)) : Prop := Paired (fun (e : P2 × D) (a : P2 × Int) => e.1 = a.1 ∧ Tell K e.2 ((a.2 : Rat) / N) ∧ 0 ≤ a.2) E A
theorem EvJ.pos {K : Nat} {N : Int} {E : List (P2 × D)} {A : List (P2 × Int)} (h : EvJ K N E A) : ∀ a, a ∈ A → 0 ≤ a.2 := by
  induction h with
  | nil => exact fun a h => nomatch h
  | cons q _ ih =>
    intro a ha
    rcases List.mem_cons.mp ha with rfl | ha
    · exact q.2.2
    · exact ih a ha
end Vm
namespace Vm
open PySem L2
/-! ### what events give to a question f, together -/
section
variable {κ : Type} [DecidableEq κ]
def IE (E : List (κ × Int)) (f : κ → Int) : Int := (E.map fun e => f e.1 * e.2).sum
theorem IE_cons {e : κ × Int} {E : List (κ × Int)} {f : κ → Int} : IE (e :: E) f = f e.1 * e.2 + IE E f := by
  unfold IE
  rw [List.map_cons, List.sum_cons]
theorem IE_app {A B : List (κ × Int)} {f : κ → Int} : IE (A ++ B) f = IE A f + IE B f := by
  unfold IE
  rw [List.map_append, List.sum_append]
theorem IE_le {E : List (κ × Int)} {f g : κ → Int} (h0 : ∀ e, e ∈ E → 0 ≤ e.2) (h : ∀ e, e ∈ E → f e.1 ≤ g e.1) : IE E f ≤ IE E g := by
  induction E with
  | nil => exact Int.le_refl _
  | cons e E ih =>
    rw [IE_cons, IE_cons]
    have := ih (fun x hx => h0 x (List.mem_cons_of_mem _ hx)) fun x hx => h x (List.mem_cons_of_mem _ hx)
    have := Int.mul_le_mul_of_nonneg_right (h e (List.mem_cons_self ..)) (h0 e (List.mem_cons_self ..))
    omega
theorem IE_keys {ks : List κ} {f : κ → Int} (nd : ks.Nodup) : ∀ E : List (κ × Int), (∀ e, e ∈ E → e.1 ∈ ks) → (ks.map fun k => f k * gev E k).sum = IE E f
  | [], _ => by
    have : ∀ ks : List κ, (ks.map fun k => f k * gev ([] : List (κ × Int)) k).sum = 0 := fun ks => by
      induction ks with
      | nil => rfl
      | cons k ks ih =>
        rw [List.map_cons, List.sum_cons, ih]
        have : gev ([] : List (κ × Int)) k = 0 := rfl
        rw [this, Int.mul_zero, Int.zero_add]
    exact this ks
  | e :: E, h => by
    have ih := IE_keys (f := f) nd E fun m hm => h m (List.mem_cons_of_mem _ hm)
    have eq : (ks.map fun k => f k * gev (e :: E) k) = ks.map fun k => (if e.1 = k then f e.1 * e.2 else 0) + f k * gev E k := List.map_congr_left fun k _ => by
      have g : gev (e :: E) k = (if e.1 = k then e.2 else 0) + gev E k := rfl
      rw [g, Int.mul_add]
      by_cases hk : e.1 = k
      · subst hk
        rw [if_pos rfl, if_pos rfl]
      · rw [if_neg hk, if_neg hk, Int.mul_zero]
    rw [eq, sum_addG ks (fun k => if e.1 = k then f e.1 * e.2 else 0) fun k => f k * gev E k, ih, sum_iteG nd (h e (List.mem_cons_self ..)), IE_cons]
theorem IE_at {ks : List κ} {w : κ → Int} {f : κ → Int} : IE (ks.map fun k => (k, w k)) f = (ks.map fun k => f k * w k).sum := by
  unfold IE
  rw [List.map_map]
  rfl
theorem IE_flat {α : Type} {g : α → List (κ × Int)} {f : κ → Int} : ∀ xs : List α, IE (xs.flatMap g) f = (xs.map fun x => IE (g x) f).sum
  | [] => rfl
  | x :: xs => by
    rw [List.flatMap_cons, IE_app, IE_flat xs, List.map_cons, List.sum_cons]
/-- what stands at k -/
theorem IE_one {E : List (κ × Int)} {k : κ} : IE E (fun x => if x = k then 1 else 0) = gev E k := by
  unfold IE gev
  refine congrArg List.sum (List.map_congr_left fun e _ => ?_)
  show (if e.1 = k then 1 else 0) * e.2 = if e.1 = k then e.2 else 0
  split
  · rw [Int.one_mul]
  · rw [Int.zero_mul]
end
/-- a joint spread's lines by whole weights -/
def linesA (F : List (P2 × Int)) : List (P2 × Int) := (sortP (gkeys F)).map fun k => (k, gwt F k)
theorem IE_wt {F : List (List Int × Int)} (nd : (keys F).Nodup) (f : List Int → Int) : IE F f = ((keys F).map fun k => f k * wt F k).sum := by
  unfold IE keys
  rw [List.map_map]
  congr 1
  refine List.map_congr_left fun p hp => ?_
  show f p.1 * p.2 = f p.1 * wt F p.1
  unfold wt
  rw [aget_nd nd hp]
  rfl
theorem IE_acc (E : List (List Int × Int)) (f : List Int → Int) : IE (accL E) f = IE E f := by
  rw [IE_wt (accL_nodup E)]
  have e : (fun k => f k * wt (accL E) k) = fun k => f k * gev E k := funext fun k => by
    rw [accL_wt]
    rfl
  rw [e]
  exact IE_keys (accL_nodup E) E fun x hx => accL_keys.mpr (List.mem_map_of_mem hx)
/-! sums over ranges -/
theorem rs_mulR (c : Int) {n : Nat} (f : Nat → Int) : (rs n fun j => c * f j) = c * rs n f := sum_mul_left' c f n
  where sum_mul_left' (c : Int) (f : Nat → Int) : ∀ n, (rs n fun j => c * f j) = c * rs n f
    | 0 => by simp [rs]
    | n + 1 => by rw [rs_succ, rs_succ, sum_mul_left' c f n, Int.mul_add]
/-! single spreads -/
def optV {β : Type} (g : β → Int) : Option β → Int
  | some y => g y
  | none => 0
theorem sum_filterMap {α β : Type} (h : α → Option β) (g : β → Int) : ∀ xs : List α, ((xs.filterMap h).map g).sum = (xs.map fun x => optV g (h x)).sum
  | [] => rfl
  | x :: xs => by
    have ih := sum_filterMap h g xs
    rw [List.filterMap_cons, List.map_cons, List.sum_cons]
    cases hx : h x with
    | none =>
      show ((xs.filterMap h).map g).sum = 0 + _
      rw [ih]
      omega
    | some y =>
      show ((y :: xs.filterMap h).map g).sum = g y + _
      rw [List.map_cons, List.sum_cons, ih]
theorem IE_evTo {h : Nat → Option (List Int × Int)} {f : List Int → Int} {n : Nat} : IE (evTo h n) f = rs n fun r => optV (fun e => f e.1 * e.2) (h r) := sum_filterMap h (fun e => f e.1 * e.2) (List.range n)
theorem IE_come {F : List (List Int × Int)} {ws : List Int} (h0 : ∀ w, w ∈ ws → 0 ≤ w) (nd : (keys F).Nodup) (f : List Int → Int) : IE (comeF F ws) f = IE F fun k => rs ws.length fun r => f (inc k r) * ws.getD r 0 := by
  unfold comeF
  rw [IE_acc, IE_wt nd]
  unfold comeE
  rw [IE_flat]
  refine congrArg List.sum (List.map_congr_left fun k _ => ?_)
  rw [IE_evTo, Int.mul_comm, ← rs_mulR]
  refine rs_congr fun r hr => ?_
  unfold incEv
  have g0 := getD_ge h0 r
  by_cases hw : 0 < ws.getD r 0
  · rw [if_pos hw]
    show f (inc k r) * (wt F k * ws.getD r 0) = wt F k * (f (inc k r) * ws.getD r 0)
    rw [← Int.mul_assoc, Int.mul_comm (f (inc k r)), Int.mul_assoc]
  · rw [if_neg hw]
    have : ws.getD r 0 = 0 := by omega
    rw [this, Int.mul_zero, Int.mul_zero]
    rfl
/-! a ball leaving both -/
end Vm
namespace Vm
open PySem L2
/-! ### loads, again -/
theorem Ld.inc {n : Nat} {b : Int} {k : List Int} {r : Nat} (h : Ld n b k) (hr : r < n) : Ld n (b + 1) (inc k r) := ⟨inc_len.trans h.len, inc_pos (by rw [h.len]; exact hr) h.pos, by rw [inc_sum (by rw [h.len]; exact hr), h.sum], sortD_pw _⟩
/-! ### joint spreads by whole weights -/
theorem gget_nd {κ β : Type} [DecidableEq κ] : ∀ {F : List (κ × β)} {p : κ × β}, (gkeys F).Nodup → p ∈ F → gget F p.1 = some p.2
  | [], _, _, h => by cases h
  | a :: F, p, nd, h => by
    have nd : (a.1 :: gkeys F).Nodup := nd
    have nd := List.nodup_cons.mp nd
    rcases List.mem_cons.mp h with rfl | h
    · unfold gget
      rw [List.find?_cons_of_pos (by simp)]
      rfl
    · have ne : a.1 ≠ p.1 := fun z => nd.1 (by
        rw [z]
        exact List.mem_map_of_mem h)
      have ih := gget_nd nd.2 h
      unfold gget at ih ⊢
      rw [List.find?_cons_of_neg (by simpa using ne)]
      exact ih
theorem gsum_IE {κ : Type} [DecidableEq κ] (E : List (κ × Int)) : gsum E = IE E fun _ => 1 := by
  unfold gsum IE
  refine congrArg List.sum (List.map_congr_left fun e _ => (Int.one_mul _).symm)
theorem IE_linesA {F : List (P2 × Int)} (nd : (gkeys F).Nodup) (f : P2 → Int) : IE (linesA F) f = IE F f := by
  unfold linesA
  rw [IE_at, perm_sumE ((sortP_perm (gkeys F)).map fun k => f k * gwt F k)]
  unfold gkeys IE
  rw [List.map_map]
  refine congrArg List.sum (List.map_congr_left fun p hp => ?_)
  show f p.1 * gwt F p.1 = f p.1 * p.2
  unfold gwt
  rw [gget_nd nd hp]
  rfl
structure JW (n b : Nat) (F : List (P2 × Int)) : Prop where
  nd : (gkeys F).Nodup
  ne : gkeys F ≠ []
  w : ∀ k, k ∈ gkeys F → 1 ≤ gwt F k
  l1 : ∀ k, k ∈ gkeys F → Ld n (b : Int) k.1
  l2 : ∀ k, k ∈ gkeys F → Ld n (b : Int) k.2
  mj : ∀ k, k ∈ gkeys F → Maj k.1 k.2
theorem mem_linesA {F : List (P2 × Int)} {a : P2 × Int} : a ∈ linesA F ↔ a.1 ∈ gkeys F ∧ a.2 = gwt F a.1 := by
  unfold linesA
  rw [List.mem_map]
  constructor
  · rintro ⟨k, hk, rfl⟩
    exact ⟨sortP_mem.mp hk, rfl⟩
  · rintro ⟨h1, h2⟩
    exact ⟨a.1, sortP_mem.mpr h1, by rw [← h2]⟩
theorem gsum_linesA {F : List (P2 × Int)} (nd : (gkeys F).Nodup) : gsum (linesA F) = gsum F := by rw [gsum_IE, gsum_IE, IE_linesA nd]
theorem JW.s1 {n b : Nat} {F : List (P2 × Int)} (h : JW n b F) : 1 ≤ gsum F ∧ ∀ k, k ∈ gkeys F → gwt F k ≤ gsum F := by
  rw [← gsum_linesA h.nd]
  have nn : ∀ x, x ∈ (linesA F).map (·.2) → 0 ≤ x := fun x hx => by
    obtain ⟨a, ha, rfl⟩ := List.mem_map.mp hx
    obtain ⟨h1, h2⟩ := mem_linesA.mp ha
    rw [h2]
    have := h.w _ h1
    omega
  have le : ∀ k, k ∈ gkeys F → gwt F k ≤ gsum (linesA F) := fun k hk => mem_le_sum nn _ (List.mem_map.mpr ⟨(k, gwt F k), mem_linesA.mpr ⟨hk, rfl⟩, rfl⟩)
  refine ⟨?_, le⟩
  obtain ⟨k, ks, e⟩ := List.exists_cons_of_ne_nil h.ne
  have hk : k ∈ gkeys F := by rw [e]; exact List.mem_cons_self ..
  have := le k hk
  have := h.w k hk
  omega
/-- the table of a pairing by whole weights: rows us, columns vs, nothing above -/
structure PT (n : Nat) (M : Int) (us vs : List Int) (R : Nat → Nat → Int) : Prop where
  row : ∀ a, a < n → rs n (R a) = us.getD a 0
  col : ∀ b, b < n → rs n (fun a => R a b) = vs.getD b 0
  ge : ∀ a b, 0 ≤ R a b
  sup : ∀ a b, b < n → a < b → R a b = 0
  all : (rs n fun a => rs n fun b => R a b) = M
theorem IE_const {κ : Type} [DecidableEq κ] (E : List (κ × Int)) (c : Int) : IE E (fun _ => c) = c * gsum E := by
  unfold IE gsum
  induction E with
  | nil => simp
  | cons e E ih => rw [List.map_cons, List.map_cons, List.sum_cons, List.sum_cons, ih, Int.mul_add]
/-! ### as data -/
/-- a line's share of the common bottom is its weight -/
theorem aJ_line {w N : Int} (h0 : 1 ≤ w) (h : 1 ≤ N) {a b : List Int} : aJ N (a, b, w / gI w N, N / gI w N) = w := by
  show w / gI w N * (N / (N / gI w N)) = w
  have g1 := gI_pos (w := w) h
  have gw : gI w N ∣ w := Int.gcd_dvd_left (a := w) (b := N)
  have gN : gI w N ∣ N := Int.gcd_dvd_right (a := w) (b := N)
  obtain ⟨c, hc⟩ := gN
  obtain ⟨d, hd⟩ := gw
  generalize gI w N = g at *
  have c1 : 1 ≤ c := by
    rcases Int.lt_or_le 0 c with q | q
    · omega
    · have := Int.mul_nonpos_of_nonneg_of_nonpos (show 0 ≤ g by omega) q
      omega
  rw [hd, hc, Int.mul_ediv_cancel_left _ (show g ≠ 0 by omega), Int.mul_ediv_cancel_left _ (show g ≠ 0 by omega), Int.mul_ediv_cancel _ (show c ≠ 0 by omega), Int.mul_comm]
def selP (z : Bool) (k : P2) : List Int := if z then k.2 else k.1
theorem evJ_linL {n b : Nat} {F : List (P2 × Int)} (h : JW n b F) (z : Bool) : evJ z (gsum F) (linL F) = (sortP (gkeys F)).map fun k => (selP z k, gwt F k) := by
  unfold evJ linL
  rw [List.map_map]
  refine List.map_congr_left fun k hk => ?_
  have hk := sortP_mem.mp hk
  show (selJ z _, aJ (gsum F) (k.1, k.2, _, _)) = _
  rw [aJ_line (h.w k hk) h.s1.1]
  cases z <;> rfl
theorem IE_evJ {n b : Nat} {F : List (P2 × Int)} (h : JW n b F) (z : Bool) (f : List Int → Int) : IE (evJ z (gsum F) (linL F)) f = IE F fun k => f (selP z k) := by
  rw [evJ_linL h, ← IE_linesA h.nd]
  unfold linesA IE
  rw [List.map_map, List.map_map]
  rfl
end Vm
namespace Vm
open PySem L2 PySem.Spec PyProof.Rows
/-! ### means, over any whole weights -/
def cWorth : CS :=
 (cSeq (cIfS (cB (cOp2 opEq (cVar 1) (cC (.str "fullest"))))
 (cRet (cOp2 opIx (cVar 0) (cC (.int 0))))
 cNx)
 (cSeq (cIfS (cB (cOp2 opEq (cVar 1) (cC (.str "emptiest"))))
 (cRet (cOp2 opIx (cVar 0) (cOp1 opNeg (cC (.int 1)))))
 cNx)
 (cSeq (cIfS (cB (cOp2 opEq (cVar 1) (cC (.str "gap"))))
 (cRet (cOp2 opSub (cOp2 opIx (cVar 0) (cC (.int 0))) (cOp2 opIx (cVar 0) (cOp1 opNeg (cC (.int 1))))))
 cNx)
 (cRet (cOp1 opSum (cLc [2] (ciSeq (cVar 0)) (tgN 2) ctYes (cOp2 opMulV (cVar 2) (cVar 2))))))))
def fWorth : Fn := runF 3 cWorth
def lastL (k : List Int) : Int := (k.getLast?).getD 0
def sqL (k : List Int) : Int := (k.map fun x => x * x).sum
def hv4 (w : Str) (k : List Int) : Int := if w = ("fullest" : Str) then k.getD 0 0 else if w = ("emptiest" : Str) then lastL k else if w = ("gap" : Str) then k.getD 0 0 - lastL k else sqL k
def Wd4 (w : Str) : Prop := w = "fullest" ∨ w = "emptiest" ∨ w = "gap" ∨ w = "squares"
theorem hv_f (k : List Int) : hv4 "fullest" k = k.getD 0 0 := if_pos rfl
theorem hv_e (k : List Int) : hv4 "emptiest" k = lastL k := (if_neg (by decide)).trans (if_pos rfl)
theorem hv_g (k : List Int) : hv4 "gap" k = k.getD 0 0 - lastL k := (if_neg (by decide)).trans ((if_neg (by decide)).trans (if_pos rfl))
theorem hv_s (k : List Int) : hv4 "squares" k = sqL k := (if_neg (by decide)).trans ((if_neg (by decide)).trans (if_neg (by decide)))
theorem worthE_ok {k : List Int} {w : Str} (hw : Wd4 w) (hk : k ≠ []) (hb : ∀ x, x ∈ k → 0 ≤ x ∧ x ≤ 1000) (hl : k.length ≤ 12) : fWorth [.d (ldD k), .d (.str w)] [] = .ok (.d (.int (hv4 w k))) [] := by
  obtain ⟨x, t, rfl⟩ := List.exists_cons_of_ne_nil hk
  obtain ⟨y, e4⟩ : ∃ y, (x :: t).getLast? = some y := ⟨_, List.getLast?_eq_some_getLast (by simp)⟩
  have ly : lastL (x :: t) = y := by unfold lastL; rw [e4]; rfl
  have i0 : opIx (.d (ldD (x :: t))) (.d (.int 0)) = some (.d (.int x)) := opIx_t (atI_nat (by decide) (by rw [Int.toNat_zero]; rfl))
  have i1 : opIx (.d (ldD (x :: t))) (.d (.int (-1))) = some (.d (.int y)) := opIx_t (atI_last (by rw [List.getLast?_map, e4]; rfl))
  have tt : ∀ s : Str, opEq (.d (.str s)) (.d (.str s)) = some (.d (.bool true)) := fun s => str_eq
  unfold fWorth
  rw [runF_s]
  rcases hw with rfl | rfl | rfl | rfl
  · rw [hv_f]
    simp [cWorth, tt, i0]
  · have a1 : opEq (.d (.str (Str.ofString "emptiest"))) (.d (.str (Str.ofString "fullest"))) = some (.d (.bool false)) := by kernel_rfl
    rw [hv_e, ly]
    simp [cWorth, tt, a1, i1]
  · have a1 : opEq (.d (.str (Str.ofString "gap"))) (.d (.str (Str.ofString "fullest"))) = some (.d (.bool false)) := by kernel_rfl
    have a2 : opEq (.d (.str (Str.ofString "gap"))) (.d (.str (Str.ofString "emptiest"))) = some (.d (.bool false)) := by kernel_rfl
    rw [hv_g, ly]
    simp [cWorth, tt, a1, a2, i0, i1]
  · have a1 : opEq (.d (.str (Str.ofString "squares"))) (.d (.str (Str.ofString "fullest"))) = some (.d (.bool false)) := by kernel_rfl
    have a2 : opEq (.d (.str (Str.ofString "squares"))) (.d (.str (Str.ofString "emptiest"))) = some (.d (.bool false)) := by kernel_rfl
    have a3 : opEq (.d (.str (Str.ofString "squares"))) (.d (.str (Str.ofString "gap"))) = some (.d (.bool false)) := by kernel_rfl
    rw [hv_s]
    generalize x :: t = k at *
    have lc := lc_for (own := [2]) (ci := ciSeq (cVar 0)) (tg := tgN 2) (el := cOp2 opMulV (cVar 2) (cVar 2)) (s := ⟨[.d (ldD k), .d (.str "squares"), .u], []⟩) (s1 := ⟨[.d (ldD k), .d (.str "squares"), .u], []⟩) (xs := k) (F := PyData.int) (fun x => PyData.int (x * x)) (by simp [ldD]) (by omega) fun x hx => by
      obtain ⟨x0, x1⟩ := hb x hx
      have mu := opMul_b (i := x) (j := x) (by omega) (by omega) (by omega) (by omega)
      exact ⟨_, rfl, [.d (ldD k), .d (.str "squares"), .d (.int x)], by simp [mu]⟩
    have hm : k.map (fun x => PyData.int (x * x)) = (k.map fun x => x * x).map PyData.int := by rw [List.map_map]; rfl
    rw [hm] at lc
    have os : opSum (.d (.list ((k.map fun x => x * x).map PyData.int))) = some (.d (.int (sqL k))) := opSum_il
    generalize ldD k = dk at *
    generalize (k.map fun x => x * x).map PyData.int = y at *
    generalize sqL k = z at *
    simp [cWorth, a1, a2, a3, lc, os]
def cMean : CS :=
 (cRet (cCallP fTotal (lCons (cLc [2, 3] (ciSeq (cVar 0)) (tgTup 2 (tgCons (tgN 2) (tgCons (tgN 3) tgNil))) ctYes (cCallP fTimes (lCons (cVar 3) (lCons (cTup (cCons (cCallP fWorth (lCons (cVar 2) (lCons (cVar 1) lNil))) (cCons (cC (.int 1)) cNil))) lNil)))) lNil)))
def fMean : Fn := runF 4 cMean
/-- the loads are small, a question's answers too -/
structure SmQ (K : Nat) (F : List (List Int × Int)) (h : List Int → Int) : Prop where
  ok : WOk K F
  h0 : ∀ k, k ∈ keys F → 0 ≤ h k
  h1 : ∀ k, k ∈ keys F → h k ≤ 100000
theorem ie_bs {K : Nat} {F : List (List Int × Int)} {h : List Int → Int} (q : SmQ K F h) : 0 ≤ IE F h ∧ Bs (K + 20) (IE F h) := by
  have hp : ∀ e, e ∈ F → 0 ≤ e.2 := fun e he => by
    have := q.ok.pos e.1 (List.mem_map_of_mem he)
    unfold wt at this
    rw [aget_nd q.ok.nd he] at this
    exact this
  have a := IE_le (E := F) (f := fun _ => 0) (g := h) hp fun e he => q.h0 _ (List.mem_map_of_mem he)
  have b := IE_le (E := F) (f := h) (g := fun _ => 100000) hp fun e he => q.h1 _ (List.mem_map_of_mem he)
  rw [IE_const] at a b
  have e : gsum F = sumW F := rfl
  rw [e] at a b
  have s1 := q.ok.s1
  have s2 := q.ok.bs
  refine ⟨by omega, ?_⟩
  have s2 : (sumW F).natAbs < 2 ^ K := s2
  show (IE F h).natAbs < 2 ^ (K + 20)
  have : (IE F h).natAbs ≤ 100000 * (sumW F).natAbs := by omega
  have p : 2 ^ (K + 20) = 2 ^ K * 1048576 := by rw [Nat.pow_add]
  omega
theorem means_total {j K : Nat} {F : List (List Int × Int)} {h : List Int → Int} (q : SmQ K F h) (K1 : 1 ≤ K) (hK : K ≤ 3000) {t : List Int → D} (ht : ∀ k, k ∈ keys F → Tell j (t k) ((wt F k * h k : Int) / (sumW F : Int))) : ∃ d, fTotal [.d (.list ((sortL (keys F)).map t))] [] = .ok (.d d) [] ∧ Tell (K + 20) d ((IE F h : Rat) / (sumW F : Int)) := by
  have s1 := q.ok.s1
  have bN : Bs (K + 20) (sumW F) := bs_up q.ok.bs (by omega)
  obtain ⟨i0, ib⟩ := ie_bs q
  have em : ((sortL (keys F)).map fun k => wt F k * h k).sum = IE F h := by
    rw [IE_wt q.ok.nd, perm_sumE ((sortL_perm (keys F)).map fun k => wt F k * h k)]
    exact congrArg List.sum (List.map_congr_left fun k _ => Int.mul_comm _ _)
  have nn : ∀ a, a ∈ (sortL (keys F)).map (fun k => wt F k * h k) → 0 ≤ a := fun a ha => by
    obtain ⟨k, hk, rfl⟩ := List.mem_map.mp ha
    have hk := sortL_mem.mp hk
    exact Int.mul_nonneg (q.ok.pos k hk) (q.h0 k hk)
  obtain ⟨d, e, td⟩ := total_c (K := K + 20) (N := sumW F) s1 bN (by omega) (by omega) ((sortL (keys F)).map t) ((sortL (keys F)).map fun k => wt F k * h k) (by rw [List.length_map, List.length_map]) (fun i d a hd ha => by
    rw [List.getElem?_map] at hd ha
    obtain ⟨k, hk, rfl⟩ := Option.map_eq_some_iff.mp hd
    rw [hk] at ha
    cases ha
    have hk := sortL_mem.mp (List.mem_of_getElem? hk)
    have bw : Bs (K + 20) (wt F k * h k) := bs_between (Int.mul_nonneg (q.ok.pos k hk) (q.h0 k hk)) (by
      rw [← em]
      exact mem_le_sum nn _ (List.mem_map_of_mem (f := fun k => wt F k * h k) (sortL_mem.mpr hk))) ib
    exact tell_tight (ht k hk) s1 bw bN (by omega)) nn (by rw [em]; exact ib)
  rw [em] at td
  exact ⟨d, e, td⟩
theorem rat_mulD {a b N : Rat} (hN : N ≠ 0) : a / N * b = a * b / N := by grind
theorem part_timesK {K : Nat} {F : List (List Int × Int)} {g : List Int → D} {k : List Int} {x : Int} (s1 : 1 ≤ sumW F) (hK : K ≤ 3000) (ht : Tell K (g k) ((wt F k : Rat) / (sumW F : Int))) (x0 : 0 ≤ x) (x1 : x ≤ 100000) : ∃ d, fTimes [.d (g k), .d (.tuple [.int x, .int 1])] [] = .ok (.d d) [] ∧ Tell (K + 20) d ((wt F k * x : Int) / (sumW F : Int)) := by
  have t1 : Tell 20 (.tuple [.int x, .int 1]) (x : Rat) := ⟨x, 1, rfl, ⟨by decide, by simp, show x.natAbs < 2 ^ 20 by omega, show (1 : Int).natAbs < 2 ^ 20 by decide⟩, by
    have : ((1 : Int) : Rat) = 1 := rfl
    rw [this, Rat.mul_one]⟩
  obtain ⟨d, e, t⟩ := times_t ht t1 (by omega)
  exact ⟨d, e, t.to (by rw [Rat.intCast_mul]; exact rat_mulD (rat_ne s1))⟩
theorem rows_seqE {F : List (List Int × Int)} {g : List Int → D} {v : List Sl} : ciSeq (cVar 0) ⟨.d (.list ((sortL (keys F)).map fun k => rowD k (g k))) :: v, []⟩ = .ok ((sortL (keys F)).map fun k => rowD k (g k)) ⟨.d (.list ((sortL (keys F)).map fun k => rowD k (g k))) :: v, []⟩ := by
  simp
theorem klenE {K : Nat} {F : List (List Int × Int)} (h : WOk K F) : (sortL (keys F)).length ≤ 100000 := by
  rw [sortL_len]
  unfold keys
  rw [List.length_map]
  exact h.len
theorem meanE_ok {K : Nat} {F : List (List Int × Int)} {ds : List D} {w : Str} (hw : Wd4 w) (q : SmQ K F (hv4 w)) (K1 : 1 ≤ K) (hK : K ≤ 3000) (hS : Spr K F ds) (hb : ∀ k, k ∈ keys F → (∀ x, x ∈ k → 0 ≤ x ∧ x ≤ 1000) ∧ k.length ≤ 12) : ∃ d, fMean [.d (.list ds), .d (.str w)] [] = .ok (.d d) [] ∧ Tell (K + 20) d ((IE F (hv4 w) : Rat) / (sumW F : Int)) := by
  obtain ⟨g, rfl, ht⟩ := hS
  have pt := fun k (hk : k ∈ keys F) => part_timesK (x := hv4 w k) q.ok.s1 hK (ht k hk) (q.h0 k hk) (q.h1 k hk)
  classical
  let t : List Int → D := fun k => if hk : k ∈ keys F then (pt k hk).choose else .none
  have hT : ∀ k, k ∈ keys F → fTimes [.d (g k), .d (.tuple [.int (hv4 w k), .int 1])] [] = .ok (.d (t k)) [] ∧ Tell (K + 20) (t k) ((wt F k * hv4 w k : Int) / (sumW F : Int)) := fun k hk => by
    have e : t k = (pt k hk).choose := dif_pos hk
    rw [e]
    exact (pt k hk).choose_spec
  generalize t = t at hT
  obtain ⟨d, e, mv⟩ := means_total q K1 hK (t := t) fun k hk => (hT k hk).2
  refine ⟨d, ?_, mv⟩
  have rs := rows_seqE (F := F) (g := g) (v := [.d (.str w), .u, .u])
  generalize PyData.list ((sortL (keys F)).map fun k => rowD k (g k)) = DS at *
  have lc := lc_for (own := [2, 3]) (tg := tgTup 2 (tgCons (tgN 2) (tgCons (tgN 3) tgNil))) (el := cCallP fTimes (lCons (cVar 3) (lCons (cTup (cCons (cCallP fWorth (lCons (cVar 2) (lCons (cVar 1) lNil))) (cCons (cC (.int 1)) cNil))) lNil))) t rs (by have := klenE q.ok; omega) fun k hk => by
    have hk := sortL_mem.mp hk
    obtain ⟨b1, b2⟩ := hb k hk
    have wo := worthE_ok hw (q.ok.ne k hk) b1 b2
    refine ⟨⟨[.d DS, .d (.str w), .d (ldD k), .d (g k)], []⟩, rfl, [.d DS, .d (.str w), .d (ldD k), .d (g k)], ?_⟩
    simp [wo, (hT k hk).1]
  generalize (sortL (keys F)).map t = y at *
  unfold fMean
  apply Ok.eq
  apply run_ok
  unfold cMean
  refine w_ret (x := .d d) (by simp [lc, e]; exact .rfl) ?_
  exact ok_0 ⟨rfl, rfl⟩
def hsum (j : Nat) (k : List Int) : Int := (k.take j).sum
/-! ### of two loads in order the questions are in order -/
end Vm
namespace Vm
open PySem L2 PySem.Spec PyProof.Rows
/-! ### spreads by whole weights, each load above nought -/
structure SW (n b : Nat) (F : List (List Int × Int)) : Prop where
  nd : (keys F).Nodup
  ne : keys F ≠ []
  w : ∀ k, k ∈ keys F → 1 ≤ wt F k
  ld : ∀ k, k ∈ keys F → Ld n (b : Int) k
theorem SW.ldF {n b : Nat} {F : List (List Int × Int)} (h : SW n b F) (n1 : 1 ≤ n) : LdF n (b : Int) F := ⟨n1, fun k hk => (h.ld k hk).len, fun k hk => (h.ld k hk).pos, fun k hk => (h.ld k hk).sum⟩
theorem SW.s1 {n b : Nat} {F : List (List Int × Int)} (h : SW n b F) : 1 ≤ sumW F ∧ ∀ k, k ∈ keys F → wt F k ≤ sumW F := by
  obtain ⟨_, b⟩ := sum_ge h.nd fun k hk => by have := h.w k hk; omega
  refine ⟨?_, b⟩
  obtain ⟨k, ks, e⟩ := List.exists_cons_of_ne_nil h.ne
  have hk : k ∈ keys F := by rw [e]; exact List.mem_cons_self ..
  have := b k hk
  have := h.w k hk
  omega
theorem SW.few {n b : Nat} {F : List (List Int × Int)} (h : SW n b F) (hb : (n ≤ 6 ∧ b ≤ 12) ∨ (n ≤ 2 ∧ b ≤ 60)) : F.length ≤ 60 := by
  have := Vm.few h.nd h.ld hb
  unfold keys at this
  rwa [List.length_map] at this
theorem SW.wok {n b K : Nat} {F : List (List Int × Int)} (h : SW n b F) (n1 : 1 ≤ n) (hl : F.length ≤ 100000) (bs : Bs K (sumW F)) : WOk K F := by
  obtain ⟨s1, sl⟩ := h.s1
  refine ⟨h.nd, fun k hk z => ?_, hl, fun k hk => by have := h.w k hk; omega, fun k hk => bs_between (by have := h.w k hk; omega) (sl k hk) bs, s1, bs⟩
  have := (h.ld k hk).len
  rw [z] at this
  simp at this
  omega
theorem sw_acc {n b : Nat} {E : List (List Int × Int)} (ne : E ≠ []) (h : ∀ e, e ∈ E → 1 ≤ e.2 ∧ Ld n (b : Int) e.1) : SW n b (accL E) := by
  have km : ∀ {k}, k ∈ keys (accL E) → ∃ e, e ∈ E ∧ e.1 = k := fun {k} hk => List.mem_map.mp (accL_keys.mp hk)
  refine ⟨accL_nodup E, fun z => ?_, fun k hk => ?_, fun k hk => ?_⟩
  · obtain ⟨e, E', rfl⟩ := List.exists_cons_of_ne_nil ne
    have : e.1 ∈ keys (accL (e :: E')) := accL_keys.mpr (List.mem_cons_self ..)
    rw [z] at this
    cases this
  · obtain ⟨e, he, rfl⟩ := km hk
    rw [accL_wt]
    have nn : ∀ x, x ∈ (E.map fun a => if a.1 = e.1 then a.2 else 0) → 0 ≤ x := fun x hx => by
      obtain ⟨s, hs, rfl⟩ := List.mem_map.mp hx
      have := (h s hs).1
      show 0 ≤ (if s.1 = e.1 then s.2 else 0)
      split <;> omega
    have m : e.2 ∈ E.map fun a => if a.1 = e.1 then a.2 else 0 := List.mem_map.mpr ⟨e, he, if_pos rfl⟩
    have := mem_le_sum nn _ m
    have := (h e he).1
    show 1 ≤ (E.map fun a => if a.1 = e.1 then a.2 else 0).sum
    omega
  · obtain ⟨e, he, rfl⟩ := km hk
    exact (h e he).2
theorem sw_come {n b : Nat} {F : List (List Int × Int)} {ws : List Int} (h : SW n b F) (hl : ws.length = n) (h0 : ∀ w, w ∈ ws → 0 ≤ w) (h1 : 1 ≤ ws.sum) : SW n (b + 1) (comeF F ws) ∧ sumW (comeF F ws) = sumW F * ws.sum := by
  have sm : sumW (comeF F ws) = sumW F * ws.sum := by
    unfold comeF
    rw [accL_sum, comeE_sum h0 h.nd (List.Perm.refl _)]
  refine ⟨sw_acc (fun z => ?_) fun e he => ?_, sm⟩
  · unfold comeF at sm
    rw [z] at sm
    have : sumW (accL []) = 0 := rfl
    rw [this] at sm
    have := Int.mul_pos (show 0 < sumW F by have := h.s1.1; omega) (show 0 < ws.sum by omega)
    omega
  · obtain ⟨k, r, hk, hr, hw, rfl⟩ := comeE_mem he
    have a := h.w k hk
    exact ⟨Int.mul_pos (by omega) (by omega), (h.ld k hk).inc (by omega)⟩
theorem Spr.len {K : Nat} {F : List (List Int × Int)} {ds : List D} (h : Spr K F ds) : ds.length = F.length := by
  obtain ⟨g, rfl, _⟩ := h
  rw [List.length_map, sortL_len]
  unfold keys
  rw [List.length_map]
/-! ### a joint spread and its two sides -/
structure Side (n b : Nat) (F : List (P2 × Int)) (F1 : List (List Int × Int)) (z : Bool) : Prop where
  sw : SW n b F1
  m : ∀ f : List Int → Int, IE F (fun k => f (selP z k)) = IE F1 f
theorem Side.sum {n b : Nat} {F : List (P2 × Int)} {F1 : List (List Int × Int)} {z : Bool} (h : Side n b F F1 z) : sumW F1 = gsum F := by
  have := h.m fun _ => 1
  rw [← gsum_IE, ← gsum_IE] at this
  exact this.symm
/-- the side told by parts is the spread that stands beside -/
theorem Side.data {K n b : Nat} {F : List (P2 × Int)} {F1 : List (List Int × Int)} {z : Bool} {ds : List D} (h : Side n b F F1 z) (jw : JW n b F) (hS : Spr K F1 ds) (bs : Bs K (gsum F)) (hK : K ≤ 8900) : spN (gsum F) (accL (evJ z (gsum F) (linL F))) = ds := by
  have s1 := jw.s1
  have sm := h.sum
  obtain ⟨A, hA⟩ : ∃ A, accL (evJ z (gsum F) (linL F)) = A := ⟨_, rfl⟩
  rw [hA]
  have nd : (keys A).Nodup := by rw [← hA]; exact accL_nodup _
  have pos : ∀ k, k ∈ keys A → 1 ≤ wt A k := fun k hk => by
    rw [← hA] at hk ⊢
    obtain ⟨e, he, rfl⟩ := List.mem_map.mp (accL_keys.mp hk)
    rw [evJ_linL jw] at he
    obtain ⟨p, hp, rfl⟩ := List.mem_map.mp he
    have hp := sortP_mem.mp hp
    have w1 := jw.w p hp
    rw [accL_wt, evJ_linL jw]
    have nn : ∀ x, x ∈ (((sortP (gkeys F)).map fun k => (selP z k, gwt F k)).map fun a => if a.1 = selP z p then a.2 else 0) → 0 ≤ x := fun x hx => by
      obtain ⟨s, hs, rfl⟩ := List.mem_map.mp hx
      obtain ⟨q, hq, rfl⟩ := List.mem_map.mp hs
      have := jw.w q (sortP_mem.mp hq)
      show 0 ≤ (if selP z q = selP z p then gwt F q else 0)
      split <;> omega
    have m : gwt F p ∈ ((sortP (gkeys F)).map fun k => (selP z k, gwt F k)).map fun a => if a.1 = selP z p then a.2 else 0 := List.mem_map.mpr ⟨(selP z p, gwt F p), List.mem_map.mpr ⟨p, sortP_mem.mpr hp, rfl⟩, if_pos rfl⟩
    have := mem_le_sum nn _ m
    show 1 ≤ (((sortP (gkeys F)).map fun k => (selP z k, gwt F k)).map fun a => if a.1 = selP z p then a.2 else 0).sum
    omega
  have ie : ∀ f, IE A f = IE F1 f := fun f => by
    rw [← hA, IE_acc, IE_evJ jw, h.m]
  have wt_ie : ∀ (B : List (List Int × Int)), (keys B).Nodup → ∀ k, IE B (fun x => if x = k then 1 else 0) = wt B k := fun B nB k => by
    rw [IE_wt nB]
    by_cases hk : k ∈ keys B
    · rw [List.map_congr_left (g := fun x => if k = x then wt B k else 0) fun x _ => by
        by_cases e : x = k
        · rw [if_pos e, if_pos e.symm, e, Int.one_mul]
        · rw [if_neg e, if_neg fun z => e z.symm, Int.zero_mul]]
      exact sum_iteG nB hk
    · rw [List.map_congr_left (g := fun _ => (0 : Int)) fun x hx => by
        rw [if_neg fun z => hk (by rw [← z]; exact hx), Int.zero_mul]]
      have : wt B k = 0 := by
        unfold wt
        rw [aget_none hk]
        rfl
      rw [this]
      generalize keys B = ks
      induction ks with
      | nil => rfl
      | cons k ks ih => rw [List.map_cons, List.sum_cons, ih]; rfl
  have wts : ∀ k, wt A k = wt F1 k := fun k => by
    rw [← wt_ie A nd, ← wt_ie F1 h.sw.nd, ie]
  have kk : ∀ k, k ∈ keys A ↔ k ∈ keys F1 := fun k => by
    have zero : ∀ (B : List (List Int × Int)), k ∉ keys B → wt B k = 0 := fun B hk => by
      unfold wt
      rw [aget_none hk]
      rfl
    constructor
    · intro hk
      have := pos k hk
      exact Classical.byContradiction fun z => by
        have := zero F1 z
        rw [← wts] at this
        omega
    · intro hk
      have := h.sw.w k hk
      exact Classical.byContradiction fun z => by
        have := zero A z
        rw [wts] at this
        omega
  have sA : sumW A = gsum F := by
    have := ie fun _ => 1
    rw [← gsum_IE, ← gsum_IE] at this
    exact this.trans sm
  have spA : Spr K A (spN (gsum F) A) := ⟨fun k => lw (wt A k) (gsum F), rfl, fun k hk => by
    rw [sA]
    have a := pos k hk
    have := (sum_ge nd fun k hk => by have := pos k hk; omega).2 k hk
    exact lw_tell (by omega) s1.1 (bs_between (by omega) (by rw [← sA]; exact this) bs) bs hK⟩
  exact spA.one hS nd h.sw.nd kk fun k hk => by rw [wts, sA, sm]
/-! the steps -/
/-! one pair alone -/
end Vm
namespace Vm
open PySem L2 PySem.Spec PyProof.Rows
/-! ### a dict with plain keys that will not change any more is locked: from then on it is data -/
def fD (kvs : List (L2.Key × D)) : D := .dict (tagF :: kvs.map fun p => (kD p.1, p.2))
/-! ### what they tell -/
end Vm
namespace Vm
open PySem L2 PySem.Spec PyProof.Rows
/-! ### flows in whole numbers -/
structure FlI (n m : Nat) (gv tk : Nat → Int) (W : Nat → Nat → Bool) (l r : Nat → Int) (x : Nat → Nat → Int) : Prop where
  l0 : ∀ i, i < n → 0 ≤ l i
  r0 : ∀ j, j < m → 0 ≤ r j
  x0 : ∀ i j, i < n → j < m → 0 ≤ x i j
  w : ∀ i j, i < n → j < m → 0 < x i j → W i j = true
  row : ∀ i, i < n → l i + rs m (x i) = gv i
  col : ∀ j, j < m → r j + rs n (fun i => x i j) = tk j
/-- givers and takers reached, each with the one ahead, by ranks that rise -/
structure Rch (n m : Nat) (W : Nat → Nat → Bool) (l : Nat → Int) (x : Nat → Nat → Int) (G : List (Nat × Option Nat)) (T : List (Nat × Nat)) (tg tt : Nat → Nat) (B : Nat) : Prop where
  gn : (G.map (·.1)).Nodup
  tn : (T.map (·.1)).Nodup
  g0 : ∀ i, (i, none) ∈ G → i < n ∧ 0 < l i
  g1 : ∀ i j, (i, some j) ∈ G → i < n ∧ 0 < x i j ∧ tt j < tg i ∧ ∃ k, (j, k) ∈ T
  t1 : ∀ j i, (j, i) ∈ T → j < m ∧ W i j = true ∧ tg i < tt j ∧ ∃ p, (i, p) ∈ G
  bt : ∀ j i, (j, i) ∈ T → tt j ≤ B
  bg : ∀ i p, (i, p) ∈ G → tg i ≤ B
structure Cls (n m : Nat) (W : Nat → Nat → Bool) (l : Nat → Int) (x : Nat → Nat → Int) (G : List (Nat × Option Nat)) (T : List (Nat × Nat)) : Prop where
  c0 : ∀ i, i < n → 0 < l i → ∃ p, (i, p) ∈ G
  c1 : ∀ i p, (i, p) ∈ G → ∀ j, j < m → W i j = true → ∃ k, (j, k) ∈ T
  c2 : ∀ j k, (j, k) ∈ T → ∀ i, i < n → 0 < x i j → ∃ p, (i, p) ∈ G
theorem Rch.gin {n m : Nat} {W : Nat → Nat → Bool} {l : Nat → Int} {x : Nat → Nat → Int} {G : List (Nat × Option Nat)} {T : List (Nat × Nat)} {tg tt : Nat → Nat} {B : Nat} (h : Rch n m W l x G T tg tt B) {i : Nat} {p : Option Nat} (hi : (i, p) ∈ G) : i < n := by
  cases p with
  | none => exact (h.g0 i hi).1
  | some j => exact (h.g1 i j hi).1
/-- the road from a taker back to a giver that has something left -/
inductive Rd (G : List (Nat × Option Nat)) (T : List (Nat × Nat)) : Nat → List (Nat × Nat) → Nat → Prop
  | last {e i : Nat} : (e, i) ∈ T → (i, none) ∈ G → Rd G T e [(i, e)] i
  | step {e i j z : Nat} {P : List (Nat × Nat)} : (e, i) ∈ T → (i, some j) ∈ G → Rd G T j P z → Rd G T e ((i, e) :: P) z
section
variable {n m : Nat} {W : Nat → Nat → Bool} {l r : Nat → Int} {x : Nat → Nat → Int} {G : List (Nat × Option Nat)} {T : List (Nat × Nat)} {tg tt : Nat → Nat} {B : Nat} {gv tk : Nat → Int}
theorem Rd.rank (h : Rch n m W l x G T tg tt B) {e z : Nat} {P : List (Nat × Nat)} (hr : Rd G T e P z) : ∀ q, q ∈ P → tt q.2 ≤ tt e ∧ tg q.1 < tt e := by
  induction hr with
  | last a b =>
    intro q hq
    rw [List.mem_singleton.mp hq]
    exact ⟨Nat.le_refl _, (h.t1 _ _ a).2.2.1⟩
  | @step e i j z P a b c ih =>
    intro q hq
    have h1 := (h.t1 _ _ a).2.2.1
    have h2 := (h.g1 _ _ b).2.2.1
    rcases List.mem_cons.mp hq with rfl | hq
    · exact ⟨Nat.le_refl _, h1⟩
    · have := ih q hq
      omega
theorem Rd.inn (h : Rch n m W l x G T tg tt B) {e z : Nat} {P : List (Nat × Nat)} (hr : Rd G T e P z) : e < m ∧ z < n ∧ (z, none) ∈ G ∧ (∃ k, (e, k) ∈ T) ∧ ∀ q, q ∈ P → q.1 < n ∧ q.2 < m ∧ W q.1 q.2 = true := by
  induction hr with
  | last a b =>
    have t := h.t1 _ _ a
    exact ⟨t.1, h.gin b, b, ⟨_, a⟩, fun q hq => by
      rw [List.mem_singleton.mp hq]
      exact ⟨h.gin b, t.1, t.2.1⟩⟩
  | @step e i j z P a b c ih =>
    have t := h.t1 _ _ a
    refine ⟨t.1, ih.2.1, ih.2.2.1, ⟨_, a⟩, fun q hq => ?_⟩
    rcases List.mem_cons.mp hq with rfl | hq
    · exact ⟨h.gin b, t.1, t.2.1⟩
    · exact ih.2.2.2.2 q hq
/-- what is moved along a road -/
def pushX (gf : Nat → Option Nat) (c : Int) : (Nat → Nat → Int) → List (Nat × Nat) → Nat → Nat → Int
  | x, [] => x
  | x, q :: P => pushX gf c (match gf q.1 with
    | some j => bump (bump x q.1 q.2 c) q.1 j (-c)
    | none => bump x q.1 q.2 c) P
structure PsI (n m : Nat) (W : Nat → Nat → Bool) (y x : Nat → Nat → Int) (e z : Nat) (c : Int) : Prop where
  x0 : ∀ i j, i < n → j < m → 0 ≤ y i j
  w : ∀ i j, i < n → j < m → 0 < y i j → W i j = true
  row : ∀ i, rs m (y i) = rs m (x i) + if i = z then c else 0
  col : ∀ j, rs n (fun i => y i j) = rs n (fun i => x i j) + if j = e then c else 0
theorem push_rd (h : Rch n m W l x G T tg tt B) {gf : Nat → Option Nat} (hg : ∀ i p, (i, p) ∈ G → gf i = p) {c : Int} (c0 : 0 ≤ c) {e z : Nat} {P : List (Nat × Nat)} (hr : Rd G T e P z) :
    ∀ y : Nat → Nat → Int, (∀ i j, i < n → j < m → 0 ≤ y i j) → (∀ i j, i < n → j < m → 0 < y i j → W i j = true) → (∀ q, q ∈ P → ∀ j, gf q.1 = some j → c ≤ y q.1 j) → PsI n m W (pushX gf c y P) y e z c := by
  induction hr with
  | @last e i a b =>
    intro y y0 yw yc
    have t := h.t1 _ _ a
    have hin := h.gin b
    have gi := hg _ _ b
    show PsI n m W (match gf i with
      | some j => bump (bump y i e c) i j (-c)
      | none => bump y i e c) y e i c
    rw [gi]
    refine ⟨fun a b ha hb => ?_, fun a b ha hb q => ?_, fun a => bump_row t.1 a, fun b => bump_col hin b⟩
    · show 0 ≤ bump y i e c a b
      unfold bump
      have := y0 a b ha hb
      split <;> omega
    · by_cases z : a = i ∧ b = e
      · rw [z.1, z.2]
        exact t.2.1
      · have q : 0 < bump y i e c a b := q
        have : bump y i e c a b = y a b := by
          unfold bump
          rw [if_neg z]
        rw [this] at q
        exact yw a b ha hb q
  | @step e i j z P a b hP ih =>
    intro y y0 yw yc
    have t := h.t1 _ _ a
    have hin := h.gin b
    have gi := hg _ _ b
    have g1 := h.g1 _ _ b
    have pin := hP.inn h
    have rk := hP.rank h
    have ne : e ≠ j := fun z => by
      subst z
      omega
    have cj : c ≤ y i j := yc (i, e) (List.mem_cons_self ..) j gi
    have ym : ∀ a b, bump (bump y i e c) i j (-c) a b = if a = i ∧ b = j then y a b - c else if a = i ∧ b = e then y a b + c else y a b := fun a b => by
      unfold bump
      by_cases q : a = i ∧ b = j
      · rw [if_pos q, if_pos q, if_neg (fun z => ne (z.2.symm.trans q.2))]
        omega
      · rw [if_neg q, if_neg q]
    have ni : ∀ q, q ∈ P → q.1 ≠ i := fun q hq z => by
      have := (rk q hq).2
      rw [z] at this
      omega
    have I := ih (bump (bump y i e c) i j (-c)) (fun a b ha hb => by
      rw [ym]
      have := y0 a b ha hb
      split
      · rename_i q
        rw [q.1, q.2]
        omega
      · split <;> omega) (fun a b ha hb q => by
      rw [ym] at q
      by_cases q1 : a = i ∧ b = e
      · rw [q1.1, q1.2]
        exact t.2.1
      · refine yw a b ha hb ?_
        rw [if_neg q1] at q
        split at q
        · omega
        · exact q) (fun q hq k hk => by
      rw [ym, if_neg (fun z => ni q hq z.1), if_neg (fun z => ni q hq z.1)]
      exact yc q (List.mem_cons_of_mem _ hq) k hk)
    show PsI n m W (pushX gf c (match gf i with
      | some j => bump (bump y i e c) i j (-c)
      | none => bump y i e c) P) y e z c
    rw [gi]
    refine ⟨I.x0, I.w, fun a => ?_, fun b => ?_⟩
    · rw [I.row, bump_row pin.1 a, bump_row t.1 a]
      split <;> split <;> omega
    · rw [I.col, bump_col hin b, bump_col hin b]
      by_cases q1 : b = j
      · rw [if_pos q1, if_pos q1, if_neg (fun z => ne (z.symm.trans q1))]
        omega
      · rw [if_neg q1, if_neg q1]
        omega
/-- so much moved along a road -/
theorem FlI.push (f : FlI n m gv tk W l r x) (h : Rch n m W l x G T tg tt B) {gf : Nat → Option Nat} (hg : ∀ i p, (i, p) ∈ G → gf i = p) {c : Int} (c0 : 0 ≤ c) {e z : Nat} {P : List (Nat × Nat)} (hr : Rd G T e P z) (hc : ∀ q, q ∈ P → ∀ j, gf q.1 = some j → c ≤ x q.1 j) (cr : c ≤ r e) (cl : c ≤ l z) :
    FlI n m gv tk W (fun i => if i = z then l i - c else l i) (fun j => if j = e then r j - c else r j) (pushX gf c x P) := by
  have I := push_rd h hg c0 hr x f.x0 f.w hc
  refine ⟨fun i hi => ?_, fun j hj => ?_, I.x0, I.w, fun i hi => ?_, fun j hj => ?_⟩
  · have := f.l0 i hi
    show 0 ≤ if i = z then l i - c else l i
    split
    · rename_i q
      rw [q]
      omega
    · exact this
  · have := f.r0 j hj
    show 0 ≤ if j = e then r j - c else r j
    split
    · rename_i q
      rw [q]
      omega
    · exact this
  · rw [I.row]
    have := f.row i hi
    show (if i = z then l i - c else l i) + _ = _
    split <;> omega
  · rw [I.col]
    have := f.col j hj
    show (if j = e then r j - c else r j) + _ = _
    split <;> omega
end
end Vm
namespace Vm
open PySem L2 PySem.Spec PyProof.Rows
/-! ### dicts whose keys are places -/
section
variable {β : Type}
def keyN (L : List (Nat × β)) (k : Nat) : Prop := ∃ p, (k, p) ∈ L
theorem keyN_iff {L : List (Nat × β)} {k : Nat} : keyN L k ↔ k ∈ L.map (·.1) := by
  constructor
  · rintro ⟨p, h⟩
    exact List.mem_map.mpr ⟨(k, p), h, rfl⟩
  · intro h
    obtain ⟨⟨a, p⟩, h2, rfl⟩ := List.mem_map.mp h
    exact ⟨p, h2⟩
instance (L : List (Nat × β)) (k : Nat) : Decidable (keyN L k) := decidable_of_iff (k ∈ L.map (·.1)) keyN_iff.symm
end
/-! ### what is reached grows -/
end Vm
namespace Vm
open PySem L2 PySem.Spec PyProof.Rows
/-! ### what is reached from what is left: the walk -/
/-- midway: pend: givers not yet gone through, one: the giver gone through up to b, other: the taker gone through up to c -/
structure Mid (n m : Nat) (W : Nat → Nat → Bool) (l : Nat → Int) (x : Nat → Nat → Int) (g0 : Nat) (pend : List Nat) (one b other c : Nat) (G : List (Nat × Option Nat)) (T : List (Nat × Nat)) (behind : List Nat) : Prop where
  r : ∃ tg tt, Rch n m W l x G T tg tt (G.length + T.length)
  c0 : ∀ i, i < n → 0 < l i → keyN G i
  pin : ∀ i, i ∈ pend ∨ i ∈ behind → keyN G i
  ln : G.length = g0 + behind.length
  c1 : ∀ i, keyN G i → i ∉ pend → i ∉ behind → ∀ j, j < m → W i j = true → keyN T j
  c1b : ∀ j, j < b → W one j = true → keyN T j
  c2 : ∀ j, keyN T j → j ≠ other → ∀ i, i < n → 0 < x i j → keyN G i
  c2b : keyN T other → ∀ i, i < c → 0 < x i other → keyN G i
section
variable {n m : Nat} {W : Nat → Nat → Bool} {l : Nat → Int} {x : Nat → Nat → Int} {g0 : Nat} {pend : List Nat} {one b other c : Nat} {G : List (Nat × Option Nat)} {T : List (Nat × Nat)} {behind : List Nat} {tg tt : Nat → Nat} {B : Nat}
theorem Mid.cls (h : Mid n m W l x g0 [] n 0 m 0 G T []) : Cls n m W l x G T := by
  obtain ⟨tg, tt, r⟩ := h.r
  refine ⟨h.c0, fun i p hp j hj hw => h.c1 i ⟨p, hp⟩ (fun z => nomatch z) (fun z => nomatch z) j hj hw, fun j k hk i hi hx => h.c2 j ⟨k, hk⟩ (by have := (r.t1 j k hk).1; omega) i hi hx⟩
/-- the givers that have something left, up to a place -/
def lefts (l : Nat → Int) (i : Nat) : List Nat := (List.range i).filter fun a => decide (0 < l a)
def start (l : Nat → Int) (i : Nat) : List (Nat × Option Nat) := (lefts l i).map fun a => (a, none)
end
end Vm
namespace Vm
open PySem L2 PySem.Spec PyProof.Rows
/-! ### two spreads held: the walk -/
/-- a spread by whole weights -/
structure SpH (K n b : Nat) (A : List (List Int × Int)) (W : Int) : Prop where
  ne : A ≠ []
  ld : ∀ p, p ∈ A → Ld n (b : Int) p.1
  pw : (A.map (·.1)).Pairwise (· < ·)
  w : ∀ p, p ∈ A → 1 ≤ p.2 ∧ p.2 ≤ W
  sm : (A.map (·.2)).sum = W
  bs : Bs K W
  w1 : 1 ≤ W
end Vm
namespace Vm
open PySem L2 PySem.Spec PyProof.Rows
/-! ### one spread is no fuller than another: by all rising questions -/
theorem wt_nd {F : List (List Int × Int)} (nd : (keys F).Nodup) {p : List Int × Int} (h : p ∈ F) : wt F p.1 = p.2 := by
  unfold wt
  rw [aget_nd nd h]
  rfl
/-! ### balls that come and leave keep it -/
theorem SW.mem {n b : Nat} {F : List (List Int × Int)} (h : SW n b F) {e : List Int × Int} (he : e ∈ F) : 1 ≤ e.2 ∧ Ld n (b : Int) e.1 := by
  have k : e.1 ∈ keys F := List.mem_map_of_mem he
  have := h.w _ k
  rw [wt_nd h.nd he] at this
  exact ⟨this, h.ld _ k⟩
end Vm
namespace Vm
open PySem L2 PySem.Spec PyProof.Rows
/-! ### a rule by whole weights, told by the law -/
/-! ### a load, and one that comes of it by moves to an emptier box -/
theorem ixI {xs : List Int} {i : Nat} (h : i < xs.length) : opIx (.d (.list (xs.map PyData.int))) (.d (.int (i : Nat))) = some (.d (.int (xs.getD i 0))) := by
  have := opIx_ln (ds := xs.map PyData.int) (i := i) (by rw [List.length_map]; omega)
  rw [this, List.getElem_map, List.getD_eq_getElem?_getD, List.getElem?_eq_getElem h]
  rfl
end Vm
namespace Vm
open PySem L2 PySem.Spec PyProof.Rows
/-! ### balls on a net beside balls by a rule -/
def CmS (ws : List Int) (F : List (List Int × Int)) : Nat → List (List Int × Int)
  | 0 => F
  | i + 1 => comeF (CmS ws F i) ws
end Vm
namespace Vm
open PySem L2 PySem.Spec PyProof.Rows
/-! ### even nets, whole nets, lonely ones, beside drawn boxes -/
section
variable {n b : Nat} {t : List Int}
theorem getD_memS {xs : List Int} {i : Nat} (h : i < xs.length) : xs.getD i 0 ∈ xs := by
  rw [List.getD_eq_getElem?_getD, List.getElem?_eq_getElem h]
  exact List.getElem_mem _
theorem rs_addG {f g : Nat → Int} : ∀ {n : Nat}, (rs n fun r => f r + g r) = rs n f + rs n g
  | 0 => rfl
  | n + 1 => by
    rw [rs_succ, rs_succ, rs_succ, rs_addG]
    omega
end
end Vm
namespace Vm
open PySem L2 PySem.Spec PyProof.Rows
/-! ### zip of three lists; `&` of whole numbers -/
def zipD3 : List D → List D → List D → List D
  | d :: ds, e :: es, f :: fs => .tuple [d, e, f] :: zipD3 ds es fs
  | _, _, _ => []
def zip3R (a b x : Rv) (s : S) : R (List D) := match a, b, x with
  | .d (.list ds), .d (.list es), .d (.list fs) => .ok (zipD3 ds es fs) s
  | _, _, _ => .bad
def kZip3b (c : CE) (a b : Rv) (s : S) : R (List D) := (cv c s).bind (zip3R a b)
def kZip3 (c' c'' : CE) (a : Rv) (s : S) : R (List D) := (cv c' s).bind (kZip3b c'' a)
def ciZip3 (c c' c'' : CE) : CI := fun s => (cv c s).bind (kZip3 c' c'')
@[simp] theorem zip3R_l {ds es fs : List D} {s : S} : zip3R (.d (.list ds)) (.d (.list es)) (.d (.list fs)) s = .ok (zipD3 ds es fs) s := Eq.trans rfl rfl
@[simp] theorem kZip3b_s {c : CE} {a b : Rv} {s : S} : kZip3b c a b s = (cv c s).bind (zip3R a b) := Eq.trans rfl rfl
@[simp] theorem kZip3_s {c' c'' : CE} {a : Rv} {s : S} : kZip3 c' c'' a s = (cv c' s).bind (kZip3b c'' a) := Eq.trans rfl rfl
@[simp] theorem ciZip3_s {c c' c'' : CE} {s : S} : ciZip3 c c' c'' s = (cv c s).bind (kZip3 c' c'') := Eq.trans rfl rfl
end Vm
namespace Vm
open PySem L2 PySem.Spec PyProof.Rows
/-! ### a whole determinant: linear in each place, nought of two alike -/
abbrev Ve := Nat → Int
def vlin (a : Int) (x y : Ve) : Ve := fun i => a * x i + y i
def gS (f : List Ve → Int) (c : Nat) : List Ve → List Ve → Int
  | _, [] => 0
  | pre, v :: post => v c * f (pre ++ post) - gS f c (pre ++ [v]) post
def dt : Nat → Nat → List Ve → Int
  | 0, _, _ => 1
  | n + 1, c, l => gS (dt n (c + 1)) c [] l
structure MA (f : List Ve → Int) (n : Nat) : Prop where
  lin : ∀ (p q : List Ve) (a : Int) (x y : Ve), (p ++ x :: q).length = n → f (p ++ vlin a x y :: q) = a * f (p ++ x :: q) + f (p ++ y :: q)
  alt : ∀ (p q : List Ve) (x : Ve), (p ++ x :: x :: q).length = n → f (p ++ x :: x :: q) = 0
theorem gS_lin_pre {f : List Ve → Int} {n c : Nat} (h : MA f n) (a : Int) (x y : Ve) (p : List Ve) : ∀ (l q : List Ve), (p ++ x :: q).length + l.length = n + 1 → gS f c (p ++ vlin a x y :: q) l = a * gS f c (p ++ x :: q) l + gS f c (p ++ y :: q) l
  | [], q, _ => by
    unfold gS
    omega
  | v :: post, q, hl => by
    have ih := gS_lin_pre (c := c) h a x y p post (q ++ [v]) (by
      simp only [List.length_append, List.length_cons, List.length_nil] at hl ⊢
      omega)
    have e := h.lin p (q ++ post) a x y (by
      simp only [List.length_append, List.length_cons] at hl ⊢
      omega)
    simp only [gS, List.append_assoc, List.cons_append] at ih ⊢
    rw [ih, e]
    grind
theorem gS_lin {f : List Ve → Int} {n c : Nat} (h : MA f n) (a : Int) (x y : Ve) (q : List Ve) : ∀ (p pre : List Ve), pre.length + (p ++ x :: q).length = n + 1 → gS f c pre (p ++ vlin a x y :: q) = a * gS f c pre (p ++ x :: q) + gS f c pre (p ++ y :: q)
  | [], pre, hl => by
    have e := gS_lin_pre (c := c) h a x y pre q [] (by
      simp only [List.length_append, List.length_cons, List.length_nil, List.nil_append] at hl ⊢
      omega)
    simp only [List.nil_append, gS]
    rw [e]
    unfold vlin
    grind
  | v :: p, pre, hl => by
    have ih := gS_lin (c := c) h a x y q p (pre ++ [v]) (by
      simp only [List.length_append, List.length_cons, List.length_nil] at hl ⊢
      omega)
    have e := h.lin (pre ++ p) q a x y (by
      simp only [List.length_append, List.length_cons] at hl ⊢
      omega)
    simp only [List.cons_append, gS]
    rw [ih, ← List.append_assoc, e, List.append_assoc, List.append_assoc]
    grind
theorem gS_alt_pre {f : List Ve → Int} {n c : Nat} (h : MA f n) (x : Ve) (p : List Ve) : ∀ (l q : List Ve), (p ++ x :: x :: q).length + l.length = n + 1 → gS f c (p ++ x :: x :: q) l = 0
  | [], q, _ => rfl
  | v :: post, q, hl => by
    have ih := gS_alt_pre (c := c) h x p post (q ++ [v]) (by
      simp only [List.length_append, List.length_cons, List.length_nil] at hl ⊢
      omega)
    have e := h.alt p (q ++ post) x (by
      simp only [List.length_append, List.length_cons] at hl ⊢
      omega)
    simp only [gS, List.append_assoc, List.cons_append] at ih ⊢
    rw [ih, e]
    omega
theorem gS_alt {f : List Ve → Int} {n c : Nat} (h : MA f n) (x : Ve) (q : List Ve) : ∀ (p pre : List Ve), pre.length + (p ++ x :: x :: q).length = n + 1 → gS f c pre (p ++ x :: x :: q) = 0
  | [], pre, hl => by
    have e := gS_alt_pre (c := c) h x pre q [] (by
      simp only [List.length_append, List.length_cons, List.length_nil, List.nil_append] at hl ⊢
      omega)
    have e' : pre ++ [x] ++ [x] = pre ++ x :: x :: [] := by rw [List.append_assoc]; rfl
    simp only [List.nil_append, gS]
    rw [e', e, List.append_assoc]
    show _ * f (pre ++ x :: q) - (_ * f (pre ++ x :: q) - 0) = 0
    omega
  | v :: p, pre, hl => by
    have ih := gS_alt (c := c) h x q p (pre ++ [v]) (by
      simp only [List.length_append, List.length_cons, List.length_nil] at hl ⊢
      omega)
    have e := h.alt (pre ++ p) q x (by
      simp only [List.length_append, List.length_cons] at hl ⊢
      omega)
    simp only [List.cons_append, gS]
    rw [ih, ← List.append_assoc, e]
    omega
theorem dt_ma : ∀ n c : Nat, MA (dt n c) n
  | 0, c => ⟨fun p q a x y h => by simp at h, fun p q x h => by simp at h⟩
  | n + 1, c => by
    have ih := dt_ma n (c + 1)
    exact ⟨fun p q a x y h => gS_lin ih a x y q p [] (by simpa using h), fun p q x h => gS_alt ih x q p [] (by simpa using h)⟩
theorem MA.swap {f : List Ve → Int} {n : Nat} (h : MA f n) (p q : List Ve) (x y : Ve) (hl : (p ++ x :: y :: q).length = n) : f (p ++ x :: y :: q) = - f (p ++ y :: x :: q) := by
  have l2 : ∀ u v : Ve, (p ++ u :: v :: q).length = n := fun u v => by
    simp only [List.length_append, List.length_cons] at hl ⊢
    exact hl
  have e0 := h.alt p q (vlin 1 x y) (l2 _ _)
  have e1 := h.lin p (vlin 1 x y :: q) 1 x y (l2 _ _)
  have two : ∀ u : Ve, f (p ++ u :: vlin 1 x y :: q) = 1 * f (p ++ u :: x :: q) + f (p ++ u :: y :: q) := fun u => by
    have := h.lin (p ++ [u]) q 1 x y (by rw [List.append_assoc]; exact l2 _ _)
    simp only [List.append_assoc, List.cons_append, List.nil_append] at this
    exact this
  have ax := h.alt p q x (l2 _ _)
  have ay := h.alt p q y (l2 _ _)
  rw [e0, two, two, ax, ay] at e1
  omega
theorem MA.rep {f : List Ve → Int} {n : Nat} (h : MA f n) (q : List Ve) (x : Ve) : ∀ (m p : List Ve), (p ++ x :: (m ++ x :: q)).length = n → f (p ++ x :: (m ++ x :: q)) = 0
  | [], p, hl => h.alt p q x hl
  | v :: m, p, hl => by
    have ih := MA.rep h q x m (p ++ [v]) (by
      simp only [List.length_append, List.length_cons, List.length_nil] at hl ⊢
      omega)
    have s := h.swap p (m ++ x :: q) x v hl
    simp only [List.append_assoc, List.cons_append, List.nil_append] at ih
    rw [List.cons_append, s, ih]
    rfl
theorem MA.same {f : List Ve → Int} {n : Nat} (h : MA f n) {l : List Ve} (hl : l.length = n) {i j : Nat} (hij : i < j) (hj : j < l.length) (e : l[i]'(by omega) = l[j]) : f l = 0 := by
  have d1 : l = l.take i ++ l[i]'(by omega) :: l.drop (i + 1) := by
    rw [← List.drop_eq_getElem_cons (by omega), List.take_append_drop]
  have d2 : l.drop (i + 1) = (l.drop (i + 1)).take (j - i - 1) ++ l[j] :: l.drop (j + 1) := by
    have : l[j] :: l.drop (j + 1) = (l.drop (i + 1)).drop (j - i - 1) := by
      rw [List.drop_drop, show i + 1 + (j - i - 1) = j by omega, ← List.drop_eq_getElem_cons hj]
    rw [this, List.take_append_drop]
  rw [d2] at d1
  rw [← e] at d1
  rw [d1]
  exact h.rep _ _ _ _ (by rw [← d1]; exact hl)
/-! ### by places -/
def upf (b : Nat → Ve) (i : Nat) (v : Ve) : Nat → Ve := fun j => if j = i then v else b j
def bl (N : Nat) (b : Nat → Ve) : List Ve := (List.range N).map b
def dF (N : Nat) (b : Nat → Ve) : Int := dt N 0 (bl N b)
theorem bl_len {N : Nat} {b : Nat → Ve} : (bl N b).length = N := by unfold bl; rw [List.length_map, List.length_range]
theorem bl_get {N : Nat} {b : Nat → Ve} {i : Nat} (h : i < (bl N b).length) : (bl N b)[i] = b i := by
  have h' : i < ((List.range N).map b).length := h
  have e : ((List.range N).map b)[i]'h' = b i := by rw [List.getElem_map, List.getElem_range]
  exact e
theorem bl_upf {N : Nat} {b : Nat → Ve} {i : Nat} {v : Ve} (h : i < N) : bl N (upf b i v) = (bl N b).take i ++ v :: (bl N b).drop (i + 1) := by
  have : bl N (upf b i v) = (bl N b).set i v := by
    refine List.ext_getElem (by rw [List.length_set, bl_len, bl_len]) fun j h1 h2 => ?_
    rw [bl_get, List.getElem_set, bl_get]
    unfold upf
    by_cases e : i = j
    · rw [if_pos e, if_pos e.symm]
    · rw [if_neg e, if_neg (Ne.symm e)]
  rw [this, List.set_eq_take_append_cons_drop, if_pos (by rw [bl_len]; exact h)]
theorem dF_lin {N : Nat} {b : Nat → Ve} {i : Nat} {a : Int} {x y : Ve} (h : i < N) : dF N (upf b i (vlin a x y)) = a * dF N (upf b i x) + dF N (upf b i y) := by
  unfold dF
  rw [bl_upf h, bl_upf h, bl_upf h]
  refine (dt_ma N 0).lin _ _ a x y ?_
  rw [← bl_upf h, bl_len]
theorem dF_same {N : Nat} {b : Nat → Ve} {i j : Nat} (hi : i < N) (hj : j < N) (n : i ≠ j) (e : b i = b j) : dF N b = 0 := by
  unfold dF
  by_cases h : i < j
  · exact (dt_ma N 0).same bl_len h (by rw [bl_len]; exact hj) (by rw [bl_get, bl_get, e])
  · exact (dt_ma N 0).same bl_len (show j < i by omega) (by rw [bl_len]; exact hi) (by rw [bl_get, bl_get, e])
theorem upf_self {b : Nat → Ve} {i : Nat} : upf b i (b i) = b := by
  funext j
  unfold upf
  split
  · rename_i e
    rw [e]
  · rfl
def swf (b : Nat → Ve) (i j : Nat) : Nat → Ve := upf (upf b i (b j)) j (b i)
theorem dF_swap {N : Nat} {b : Nat → Ve} {i j : Nat} (hi : i < N) (hj : j < N) (n : i ≠ j) : dF N (swf b i j) = - dF N b := by
  have cm : ∀ u v : Ve, upf (upf b i u) j v = upf (upf b j v) i u := fun u v => by
    funext t
    unfold upf
    by_cases e1 : t = j
    · by_cases e2 : t = i
      · exact absurd (e2.symm.trans e1) n
      · rw [if_pos e1, if_neg e2, if_pos e1]
    · rw [if_neg e1, if_neg e1]
  have al : ∀ u : Ve, dF N (upf (upf b i u) j u) = 0 := fun u => dF_same hi hj n (by
    unfold upf
    rw [if_neg n, if_pos rfl, if_pos rfl])
  have e0 := al (vlin 1 (b i) (b j))
  rw [dF_lin hj, cm, cm, dF_lin hi, dF_lin hi, ← cm, ← cm, ← cm, ← cm, al, al] at e0
  have s : upf (upf b i (b i)) j (b j) = b := by rw [upf_self, upf_self]
  rw [s] at e0
  unfold swf
  omega
end Vm
namespace Vm
open PySem L2 PySem.Spec PyProof.Rows
/-! ### whole equations solved without fractions: a basis changed place by place -/
structure GJ (N k : Nat) (A : Nat → Ve) (M : Nat → Nat → Int) (d s : Int) (b : Nat → Ve) : Prop where
  d0 : d ≠ 0
  s1 : s = 1 ∨ s = -1
  det : dF N b = s * d
  rel : ∀ j t, d * A j t = rs N fun i => M i j * b i t
  old : ∀ i, i < k → b i = A i
def swI (k p i : Nat) : Nat := if i = k then p else if i = p then k else i
theorem rs_swI {N k p : Nat} (hk : k < N) (hp : p < N) (f : Nat → Int) : (rs N fun i => f (swI k p i)) = rs N f := by
  by_cases e : k = p
  · subst e
    refine rs_congr fun i _ => ?_
    unfold swI
    by_cases q : i = k
    · rw [if_pos q, q]
    · rw [if_neg q, if_neg q]
  have u1 := rs_upd (f := f) (j := k) (p := f p - f k) N
  have u2 := rs_upd (f := fun i => if i = k then f i + (f p - f k) else f i) (j := p) (p := f k - f p) N
  rw [if_pos hk] at u1
  rw [if_pos hp, u1] at u2
  have : (rs N fun i => f (swI k p i)) = rs N fun b => if b = p then (if b = k then f b + (f p - f k) else f b) + (f k - f p) else if b = k then f b + (f p - f k) else f b := rs_congr fun i _ => by
    unfold swI
    by_cases q : i = k
    · subst q
      rw [if_pos rfl, if_neg e, if_pos rfl]
      omega
    · rw [if_neg q]
      by_cases q2 : i = p
      · subst q2
        rw [if_pos rfl, if_pos rfl, if_neg q]
        omega
      · rw [if_neg q2, if_neg q2, if_neg q]
  rw [this, u2]
  omega
theorem swf_at {b : Nat → Ve} {k p i : Nat} : swf b k p i = b (swI k p i) := by
  unfold swf upf swI
  by_cases q : i = p
  · by_cases q2 : i = k
    · rw [if_pos q, if_pos q2, ← q, ← q2]
    · rw [if_pos q, if_neg q2, if_pos q]
  · rw [if_neg q]
    by_cases q2 : i = k
    · rw [if_pos q2, if_pos q2]
    · rw [if_neg q2, if_neg q2, if_neg q]
theorem GJ.swap {N k p : Nat} {A : Nat → Ve} {M : Nat → Nat → Int} {d s : Int} {b : Nat → Ve} (h : GJ N k A M d s b) (hk : k ≤ p) (hp : p < N) : ∃ s', GJ N k A (fun i j => M (swI k p i) j) d s' (swf b k p) := by
  have hkN : k < N := by omega
  have rel : ∀ j t, d * A j t = rs N fun i => M (swI k p i) j * swf b k p i t := fun j t => by
    rw [h.rel, ← rs_swI hkN hp]
    exact rs_congr fun i _ => by rw [swf_at]
  have old : ∀ i, i < k → swf b k p i = A i := fun i hi => by
    rw [swf_at]
    unfold swI
    rw [if_neg (by omega), if_neg (by omega)]
    exact h.old i hi
  by_cases e : k = p
  · subst e
    refine ⟨s, h.d0, h.s1, ?_, rel, old⟩
    rw [show swf b k k = b by unfold swf; rw [upf_self, upf_self]]
    exact h.det
  · refine ⟨-s, h.d0, ?_, ?_, rel, old⟩
    · rcases h.s1 with q | q <;> omega
    · rw [dF_swap hkN hp e, h.det, Int.neg_mul]
/-! ### how great a determinant is -/
end Vm
namespace Vm
open PySem L2 PySem.Spec PyProof.Rows
/-! ### solved -/
theorem opMul_x {i j : Int} (hi : i.natAbs < 2 ^ 8000) (hj : j.natAbs < 2 ^ 8000) : opMulV (.d (.int i)) (.d (.int j)) = some (.d (.int (i * j))) := by
  have h1 := log2_lt hi
  have h2 := log2_lt hj
  refine opMul_i ?_
  unfold mulOk
  exact decide_eq_true (by omega)
end Vm
namespace Vm
open PySem L2 PySem.Spec PyProof.Rows
/-! ### the chain of loads: a ball leaves by chance, one comes by a rule -/
theorem gev_wt {F : List (List Int × Int)} (nd : (keys F).Nodup) (k : List Int) : gev F k = wt F k := by
  rw [← IE_one, IE_wt nd]
  have go : ∀ ks : List (List Int), ks.Nodup → (ks.map fun x => (if x = k then 1 else 0) * wt F x).sum = if k ∈ ks then wt F k else 0 := fun ks => by
    induction ks with
    | nil => exact fun _ => rfl
    | cons x ks ih =>
      intro hn
      have hn := List.nodup_cons.mp hn
      rw [List.map_cons, List.sum_cons, ih hn.2]
      by_cases q : x = k
      · subst q
        rw [if_pos rfl, if_neg hn.1, if_pos (List.mem_cons_self ..)]
        omega
      · rw [if_neg q]
        by_cases q2 : k ∈ ks
        · rw [if_pos q2, if_pos (List.mem_cons_of_mem _ q2)]
          omega
        · rw [if_neg q2, if_neg fun h => by
            rcases List.mem_cons.mp h with e | e
            · exact q e.symm
            · exact q2 e]
          omega
  rw [go _ nd]
  by_cases q : k ∈ keys F
  · rw [if_pos q]
  · rw [if_neg q]
    unfold wt
    rw [aget_none q]
    rfl
theorem sw_one {n b : Nat} {l : List Int} (h : Ld n (b : Int) l) : SW n b [(l, 1)] := by
  refine ⟨by simp [keys], by simp [keys], fun k hk => ?_, fun k hk => ?_⟩
  · have : k = l := by simpa [keys] using hk
    subst this
    unfold wt
    rw [aget_cons, if_pos rfl]
    exact Int.le_refl 1
  · have : k = l := by simpa [keys] using hk
    subst this
    exact h
/-- all loads of a kind -/
structure LdA (n b : Nat) (ks : List (List Int)) : Prop where
  nd : ks.Nodup
  iff : ∀ k, k ∈ ks ↔ Ld n (b : Int) k
section
variable {n b : Nat} {us : List Int} {ks : List (List Int)}
theorem LdA.at (A : LdA n b ks) {a : Nat} (h : a < ks.length) : Ld n (b : Int) (ks.getD a []) := by
  refine (A.iff _).mp ?_
  rw [List.getD_eq_getElem?_getD, List.getElem?_eq_getElem h]
  exact List.getElem_mem h
theorem IE_ones {F : List (List Int × Int)} : IE F (fun _ => 1) = sumW F := by
  unfold IE sumW
  refine congrArg List.sum (List.map_congr_left fun e _ => ?_)
  rw [Int.one_mul]
theorem LdA.ix (A : LdA n b ks) {l : List Int} (h : Ld n (b : Int) l) : ∃ a, a < ks.length ∧ ks.getD a [] = l := by
  obtain ⟨a, ha, e⟩ := List.mem_iff_getElem.mp ((A.iff l).mpr h)
  refine ⟨a, ha, ?_⟩
  rw [List.getD_eq_getElem?_getD, List.getElem?_eq_getElem ha, e]
  rfl
end
end Vm
namespace Vm
open PySem L2 PySem.Spec PyProof.Rows
/-! ### all loads, as the program tells them; a turn of a load alone -/
/-- all falling rows of n + 1 numbers to m that come to b -/
def ldF : Nat → Nat → Nat → List (List Int)
  | 0, b, m => if b ≤ m then [[(b : Int)]] else []
  | n + 1, b, m => (List.range (min b m + 1)).flatMap fun t => (ldF n (b - t) t).map fun r => (t : Int) :: r
end Vm
namespace Vm
open PySem L2 PySem.Spec PyProof.Rows
/-! ### a turn of a load alone; a bottom that all bottoms divide -/
theorem lw_unit : lw 1 1 = shD 1 1 := rfl
theorem spr_al (k : List Int) : Spr 60 [(k, 1)] [rowD k (shD 1 1)] := by
  refine ⟨fun _ => shD 1 1, ?_, fun k' hk' => ?_⟩
  · have e : keys [(k, (1 : Int))] = [k] := rfl
    have s : sortL [k] = [k] := by
      have := sortL_len (ks := [k])
      match h : sortL [k] with
      | [] => rw [h] at this; cases this
      | [x] => rw [List.mem_singleton.mp (sortL_mem.mp (by rw [h]; exact List.mem_singleton.mpr rfl : x ∈ sortL [k]))]
      | x :: y :: l => rw [h] at this; simp at this
    rw [e, s]
    rfl
  · rw [List.mem_singleton.mp hk']
    have e : wt [(k, (1 : Int))] k = 1 := by
      unfold wt
      rw [aget_cons, if_pos rfl]
      rfl
    have s : sumW [(k, (1 : Int))] = 1 := rfl
    rw [e, s, ← lw_unit]
    exact lw_tell (by decide) (by decide) (by unfold Bs; decide) (by unfold Bs; decide) (by decide)
end Vm
namespace Vm
open PySem L2 PySem.Spec PyProof.Rows
/-! ### a ball leaves and one comes: sums over all events -/
def hF (h : List Int → Int) (F : List (List Int × Int)) : List (List Int × Int) := F.map fun p => (p.1, h p.1 * p.2)
theorem sum_flatM {α β : Type} {f : α → List β} {v : β → Int} : ∀ ks : List α, ((ks.flatMap f).map v).sum = (ks.map fun k => ((f k).map v).sum).sum
  | [] => rfl
  | k :: ks => by rw [List.flatMap_cons, List.map_append, List.sum_append, sum_flatM ks, List.map_cons, List.sum_cons]
section
variable {n : Nat} {b : Int} {F : List (List Int × Int)} {ws : List Int}
theorem getD_nn {xs : List Int} (h : ∀ x, x ∈ xs → 0 ≤ x) (i : Nat) : 0 ≤ xs.getD i 0 := getD_ge h i
end
/-! ### a common bottom, of any size -/
theorem bs_mul {j k : Nat} {x y : Int} (h : Bs j x) (g : Bs k y) : Bs (j + k) (x * y) := by
  unfold Bs at *
  rw [Int.natAbs_mul, Nat.pow_add]
  exact Nat.mul_lt_mul'' h g
theorem opMul_y {i j : Int} {k l : Nat} (hi : Bs k i) (hj : Bs l j) (hk : k ≤ 8000) (hl : l ≤ 8000) : opMulV (.d (.int i)) (.d (.int j)) = some (.d (.int (i * j))) := opMul_x (bs_up hi hk) (bs_up hj hl)
end Vm
namespace Vm
open PySem L2 PySem.Spec PyProof.Rows
/-! ### what is behind a ball leaving and one coming, by the law's own weights, of any size -/
theorem flat_len' {α β : Type} {f : α → List β} {c : Nat} : ∀ {l : List α}, (∀ x, x ∈ l → (f x).length ≤ c) → (l.flatMap f).length ≤ l.length * c
  | [], _ => by simp
  | x :: l, h => by
    have ih := flat_len' (f := f) (c := c) (l := l) fun y hy => h y (List.mem_cons_of_mem _ hy)
    have := h x (List.mem_cons_self ..)
    rw [List.flatMap_cons, List.length_append, List.length_cons, Nat.succ_mul]
    omega
theorem foldl_accL {E : List (List Int × Int)} {e : List Int × Int} : accL (E ++ [e]) = accW (accL E) e := foldl_snoc
end Vm
namespace Vm
open PySem L2 PySem.Spec PyProof.Rows
/-! ### a spread by the law's own look -/
theorem wt_memF {F : List (List Int × Int)} (nd : (keys F).Nodup) {p : List Int × Int} (hp : p ∈ F) : wt F p.1 = p.2 := by
  unfold wt
  induction F with
  | nil => cases hp
  | cons q F ih =>
    have nd' := List.nodup_cons.mp (show (q.1 :: keys F).Nodup from nd)
    rw [aget_cons]
    rcases List.mem_cons.mp hp with rfl | hp
    · rw [if_pos rfl]
      rfl
    · rw [if_neg fun z => nd'.1 (by rw [z]; exact List.mem_map.mpr ⟨p, hp, rfl⟩)]
      exact ih nd'.2 hp
theorem SpH.nd {K n b : Nat} {F : List (List Int × Int)} {W : Int} (h : SpH K n b F W) : (keys F).Nodup := h.pw.imp fun q e => by
  rw [e] at q
  exact List.lt_irrefl _ q
theorem SpH.sw {K n b : Nat} {F : List (List Int × Int)} {W : Int} (h : SpH K n b F W) : SW n b F := by
  refine ⟨h.nd, fun z => h.ne ?_, fun k hk => ?_, fun k hk => ?_⟩
  · have : F.map (·.1) = [] := z
    exact List.map_eq_nil_iff.mp this
  · obtain ⟨p, hp, rfl⟩ := List.mem_map.mp hk
    have : wt F p.1 = p.2 := wt_memF h.nd hp
    rw [this]
    exact (h.w p hp).1
  · obtain ⟨p, hp, rfl⟩ := List.mem_map.mp hk
    exact h.ld p hp
end Vm
namespace PySem.W
open Lean Elab Tactic Meta PySem PySem.Calls PyProof.Rows PyProof.V PySem.Spec
end PySem.W
namespace Vm
open PySem L2 PySem.Spec PyProof.Rows
/-! ### two spreads that stay are one; rows as questions -/
theorem wt_of_IE {F G : List (List Int × Int)} (nF : (keys F).Nodup) (nG : (keys G).Nodup) (h : ∀ f : List Int → Int, IE F f * sumW G = IE G f * sumW F) (k : List Int) : wt F k * sumW G = wt G k * sumW F := by
  have := h fun x => if x = k then 1 else 0
  rw [IE_one, IE_one, gev_wt nF, gev_wt nG] at this
  exact this
theorem key_of_IE {n b : Nat} {F G : List (List Int × Int)} (S : SW n b F) (S' : SW n b G) (h : ∀ f : List Int → Int, IE F f * sumW G = IE G f * sumW F) (k : List Int) (hk : k ∈ keys F) : k ∈ keys G := by
  have e := wt_of_IE S.nd S'.nd h k
  apply Classical.byContradiction
  intro no
  have z : wt G k = 0 := by
    unfold wt
    rw [aget_none no]
    rfl
  rw [z, Int.zero_mul] at e
  have := Int.mul_pos (show 0 < wt F k by have := S.w k hk; omega) (show 0 < sumW G by have := S'.s1.1; omega)
  omega
theorem spr_same {n b K K' : Nat} {F G : List (List Int × Int)} {ds ds' : List D} (S : SW n b F) (S' : SW n b G) (h : ∀ f : List Int → Int, IE F f * sumW G = IE G f * sumW F) (p : Spr K F ds) (p' : Spr K' G ds') : ds = ds' := by
  refine p.one p' S.nd S'.nd (fun k => ⟨key_of_IE S S' h k, key_of_IE S' S (fun f => (h f).symm) k⟩) fun k _ => ?_
  have e := wt_of_IE S.nd S'.nd h k
  have a1 := rat_ne S.s1.1
  have a2 := rat_ne S'.s1.1
  have e2 : ((wt F k * sumW G : Int) : Rat) = ((wt G k * sumW F : Int) : Rat) := by rw [e]
  rw [Rat.intCast_mul, Rat.intCast_mul] at e2
  grind
theorem Spr.up {K K' : Nat} {F : List (List Int × Int)} {ds : List D} (h : Spr K F ds) (hK : K ≤ K') : Spr K' F ds := by
  obtain ⟨g, e, t⟩ := h
  exact ⟨g, e, fun k hk => (t k hk).mono hK⟩
end Vm
namespace Vm
open PySem L2 PySem.Spec PyProof.Rows
/-! ### what stays by a rule is no fuller than what stays by a fuller one -/
theorem rs_single {N i : Nat} (hi : i < N) (h : Nat → Int) : (rs N fun j => if j = i then h j else 0) = h i := by
  have e := rs_upd (f := fun _ => (0 : Int)) (j := i) (p := h i) N
  have z : (rs N fun _ => (0 : Int)) = 0 := rs_zero fun _ _ => rfl
  rw [z, if_pos hi] at e
  have e2 : (rs N fun j => if j = i then h j else 0) = rs N fun b => if b = i then (0 : Int) + h i else 0 := rs_congr fun j _ => by
    by_cases q : j = i
    · rw [if_pos q, if_pos q, q, Int.zero_add]
    · rw [if_neg q, if_neg q]
  rw [e2, e, Int.zero_add]
/-! ### turns one behind another -/
end Vm
namespace Vm
open PySem L2 PySem.Spec PyProof.Rows
/-! ### what steady tells, all of it -/
theorem SpH.up {K K' n b : Nat} {F : List (List Int × Int)} {W : Int} (h : SpH K n b F W) (hK : K ≤ K') : SpH K' n b F W := ⟨h.ne, h.ld, h.pw, h.w, h.sm, h.bs.mono hK, h.w1⟩
theorem SW.all {n b : Nat} {F : List (List Int × Int)} {ks : List (List Int)} (h : SW n b F) (A : LdA n b ks) : F.length ≤ ks.length := by
  have := nodup_len (ys := ks) h.nd fun k hk => (A.iff k).mpr (h.ld k hk)
  unfold keys at this
  rw [List.length_map] at this
  exact this
end Vm
namespace L2
open PySem PySem.Spec PyProof.Rows
/-! ### set(list of ints) -/
section
variable {P : Program} {w : World} {A : Around} {E : Value → Shared → Prop} {s : Shared}
set_option maxRecDepth 100000 in
set_option maxHeartbeats 3200000 in
theorem call_set_listI {l : Addr} {items : Array Value} (ns : List Int) {Q : Value → Shared → Prop} (hh : A.handled = none) (hl : s.heap.IsList l items) (hit : IntsAre items.toList ns) (hb : ns.length + 1 < scanBound)
    (h : ∀ (h' : Heap) (tk c : Nat), SetR w h' s.heap.objs.size (fun j => decide (j ∈ ns)) c → c ≤ ns.length → (∀ b o, s.heap.get? b = some o → h'.get? b = some o) → Q (.ref s.heap.objs.size) { s with heap := h', toks := tk }) :
    wpAny (model P w) A (call (.type "set") [.ref l]) Q E s := by
  have hisz : items.size = ns.length := by
    have q := IntsAre.length hit
    rw [Array.length_toList] at q
    exact q
  obtain ⟨c, tl, hmro⟩ := F.called_set.mro
  have hmade := F.called_set.made
  have hsub := F.called_set.sub
  refine wpAny_call (codeAny_of_tree ?_)
  show wpAny _ _ (callAny (.type "set") _) _ _ _
  refine wpAny_pure ⟨Code.quiet_builtin _ (by decide +kernel), codeAny_builtin F.entry_type_call ?_⟩
  rw [Around.under_plain (weight_type_call_type "set" [.ref l] []) rfl]
  have h1 := F.called_set.notType
  have h2 := F.called_set.canCreate
  have hct := F.typeCall_set_1 (.ref l)
  repeat (any_goals (first | assumption | wp_step))

  refine codeAny_mono (code_set_led1 (.ref l) (E := E) (Q₁ := fun obj s₁ => obj = .ref s.heap.objs.size ∧ s₁ = { s with heap := s.heap.push { cls := .type "set", dict := none, data := .set #[] 0 (.fresh 0 0 (!w.params.followText "set-order")) } }) ⟨rfl, rfl⟩) fun r s₁ hr => ?_
  cases r with
  | error e => exact hr
  | ok fl =>
    cases fl with
    | ret obj =>
      obtain ⟨rfl, rfl⟩ := hr
      have hS : (s.heap.push { cls := .type "set", dict := none, data := .set #[] 0 (.fresh 0 0 (!w.params.followText "set-order")) }).get? s.heap.objs.size = some { cls := .type "set", dict := none, data := .set #[] 0 (.fresh 0 0 (!w.params.followText "set-order")) } := Heap.get?_push_size _ rfl
      have hT : Shared.TypeIs { s with heap := s.heap.push { cls := .type "set", dict := none, data := .set #[] 0 (.fresh 0 0 (!w.params.followText "set-order")) } } (.ref s.heap.objs.size) "set" := ⟨_, hS, rfl⟩
      have hli := F.called_set.init.lookup
      have hbi := F.called_set.init.bind (.ref s.heap.objs.size)
      repeat (any_goals (first | assumption | wp_step))

      refine codeAny_mono (codeAny_call_builtin (R := wants (fun r s₂ => r = .none ∧ ∃ h' tk c, s₂ = { s with heap := h', toks := tk } ∧ SetR w h' s.heap.objs.size (fun j => decide (j ∈ ns)) c ∧ c ≤ ns.length ∧
          (∀ b o, s.heap.get? b = some o → h'.get? b = some o)) E) F.called_set.init.plain F.entry_set_init (check_set_init_1 hT ?_)) fun r₂ s₂ hr₂ => ?_
      · obtain ⟨ol, hol, hcl, nl, hdl⟩ := hl
        obtain ⟨ocls, odict, odata, oslots⟩ := ol
        simp only at hcl hdl
        subst hcl; subst hdl
        have hol' : (s.heap.push { cls := .type "set", dict := none, data := .set #[] 0 (.fresh 0 0 (!w.params.followText "set-order")) }).get? l = some { cls := .type "list", dict := odict, data := .seq items nl, slots := oslots } := Heap.get?_push_of_some _ hol
        have hsls := F.sub_list_set
        have hslf := F.sub_list_frozenset
        have hne : (Value.type "list" == Value.type "dict") = false := by decide
        have hl1 : (s.heap.push { cls := .type "set", dict := none, data := .set #[] 0 (.fresh 0 0 (!w.params.followText "set-order")) }).IsList l items := ⟨_, hol', rfl, nl, rfl⟩
        unfold Builtin.«set.__init__» noKeywords Builtin.Frozenset.updateFrom
        generalize hPI : pyIter = PI
        wp_walk
        subst hPI

        refine wpAny_pyIter_list hl1 ?_
        refine wpAny_bind (wpAny_runValue ?_)
        have hlS : l < s.heap.objs.size := Heap.lt_size hol
        have hh3 : A.in1.in1.in1.handled = none := by simp [hh]
        have hz1 : (s.heap.push { cls := .type "set", dict := none, data := .set #[] 0 (.fresh 0 0 (!w.params.followText "set-order")) }).objs.size = s.heap.objs.size + 1 := Heap.size_push ..
        have hneI : l ≠ (s.heap.push { cls := .type "set", dict := none, data := .set #[] 0 (.fresh 0 0 (!w.params.followText "set-order")) }).objs.size := by
          rw [Heap.size_push]; exact Nat.ne_of_lt (Nat.lt_succ_of_lt hlS)
        have hSf : s.heap.objs.size ∉ [(s.heap.push { cls := .type "set", dict := none, data := .set #[] 0 (.fresh 0 0 (!w.params.followText "set-order")) }).objs.size, l] := by
          rw [Heap.size_push]; simp only [List.mem_cons, List.mem_singleton, List.not_mem_nil, or_false, not_or]
          exact ⟨Nat.ne_of_lt (Nat.lt_succ_self _), Nat.ne_of_gt hlS⟩
        have hval : ∀ (i : Nat) (v : Value), items[i]? = some v → ∃ k t, ns[i]? = some k ∧ v = .int k t := fun i v hv => by
          have hi : i < ns.length := by rw [← hisz]; exact (Array.getElem?_eq_some_iff.mp hv).1
          obtain ⟨t, e⟩ := PyProof.Rows.IntsAre.int_at hit i v (by rw [Array.getElem?_toList]; exact hv)
          refine ⟨ns[i], t, List.getElem?_eq_getElem hi, ?_⟩
          rw [e, List.getD_eq_getElem?_getD, List.getElem?_eq_getElem hi] <;> rfl
        refine set_update_ints ((Walks.list hh3 _ l hneI items).toS) s.heap.objs.size
          hSf ns hisz hb hval (items.size - 0) 0 _ (by omega) (Nat.zero_le _)
          ⟨⟨_, Heap.get?_push_size _ rfl, rfl, rfl⟩, (hl1.push _)⟩ ?hS0 ?hR
        case hS0 =>
          have hget : ((s.heap.push { cls := .type "set", dict := none, data := .set #[] 0 (.fresh 0 0 (!w.params.followText "set-order")) }).push { cls := .type "list_iterator", data := .fields #[.ref l, .int 0 0] }).get? s.heap.objs.size
              = some { cls := .type "set", dict := none, data := .set #[] 0 (.fresh 0 0 (!w.params.followText "set-order")) } := Heap.get?_push_of_some _ hS
          exact ⟨0, Nat.le_refl 0, setR_new_at hget⟩
        case hR =>
          intro s' c' hm hc' hS'
          obtain ⟨h', g2, d', tk', os'⟩ := s'
          have eg : g2 = s.gens := hm.gens
          have ed : d' = s.drawn := hm.drawn
          have eo : os' = s.os := hm.os
          subst eg; subst ed; subst eo
          show wpAny _ _ _ _ _ _
          refine wpAny_pure ?_
          show wpAny _ _ (ret Value.none) _ _ _
          rw [hisz] at hc'
          refine wpAny_pure ⟨rfl, h', tk', c', rfl, hS', hc', fun b o e => ?_⟩
          have hb0 : b < s.heap.objs.size := Heap.lt_size e
          have hb1 : b ≠ s.heap.objs.size := Nat.ne_of_lt hb0
          have hb2 : b ≠ (s.heap.push { cls := .type "set", dict := none, data := .set #[] 0 (.fresh 0 0 (!w.params.followText "set-order")) }).objs.size := by
            rw [Heap.size_push]; exact Nat.ne_of_lt (Nat.lt_succ_of_lt hb0)
          exact hm.heap b o (by simp only [List.mem_cons, List.mem_singleton, List.not_mem_nil, or_false, not_or]; exact ⟨hb1, hb2⟩) (Heap.get?_push_of_some _ (Heap.get?_push_of_some _ e))

      · cases r₂ with
        | error e => exact hr₂
        | ok fl₂ =>
          cases fl₂ with
          | ret r =>
            obtain ⟨rfl, h', tk, c', rfl, hS', hc', hk'⟩ := hr₂
            repeat (any_goals (first | assumption | wp_step))
            exact h _ _ _ hS' hc' hk'
          | _ => exact hr₂.elim
    | _ => exact hr.elim
end
section
variable {X : Cx}
def rSetI (K : PySem.W.Frag) (w : World) : List V → Hp → VK → Prop := fun xs H Q => ∃ (l : Addr) (ns : List Int), xs = [V.ref l] ∧ SqL K H l (ns.map V.int) ∧ ns.length < 64 ∧ ∀ a c, H a = none → c ≤ ns.length → Q (.ref a) (upd H a (SetO w a (fun j => decide (j ∈ ns)) c))
theorem cr_setI (hc : X.calm = true) : CallR X (.type "set") (rSetI X.K X.w) := by
  intro pins s σ H xs us Q I r h
  obtain ⟨l, ns, rfl, hl, hn, q⟩ := h
  rw [Vals.ref1 r]
  obtain ⟨its, rv, pl, hz⟩ := I.list hl
  have hf : H s.heap.objs.size = none := I.hok.fresh (Nat.le_refl _)
  refine call_set_listI (P := X.prog) (w := X.w) ns (I.ok.hd hc) pl.isList (by simpa using RZ.intsAre_vals rv) (by unfold scanBound; omega) fun h' tk c R hcl k => ?_
  exact ⟨.ref s.heap.objs.size, upd H s.heap.objs.size (SetO X.w s.heap.objs.size (fun j => decide (j ∈ ns)) c), I.laid (t' := tk) k (Nat.le_refl _) (setO_new R), rfl, q _ c hf hcl⟩
end
end L2
namespace Vm
open PySem L2 PySem.Spec PyProof.Rows
def ddI : List Int → List Int
  | [] => []
  | k :: ks => if k ∈ ks then ddI ks else k :: ddI ks
theorem ddI_mem {x : Int} : ∀ {ks : List Int}, x ∈ ddI ks ↔ x ∈ ks
  | [] => Iff.rfl
  | k :: ks => by
    have ih := ddI_mem (x := x) (ks := ks)
    unfold ddI
    split
    · rename_i h
      rw [ih, List.mem_cons]
      exact ⟨.inr, fun z => z.elim (fun e => by rw [e]; exact h) id⟩
    · rw [List.mem_cons, List.mem_cons, ih]
theorem ddI_nd : ∀ {ks : List Int}, (ddI ks).Nodup
  | [] => List.nodup_nil
  | k :: ks => by
    have ih := ddI_nd (ks := ks)
    unfold ddI
    split
    · exact ih
    · rename_i h
      exact List.nodup_cons.mpr ⟨fun z => h (ddI_mem.mp z), ih⟩
def setI (ns : List Int) : List Int := sortA (ddI ns)
theorem setI_eq {ns out : List Int} (pw : out.Pairwise (· < ·)) (hm : ∀ k, k ∈ out ↔ k ∈ ns) : out = setI ns := by
  have nd : out.Nodup := pw.imp fun h e => by omega
  have pe : out.Perm (ddI ns) := (List.perm_ext_iff_of_nodup nd ddI_nd).mpr fun k => by rw [hm, ddI_mem]
  exact (pe.trans (sortA_perm _).symm).eq_of_pairwise (fun a b _ _ h1 h2 => by omega) (pw.imp fun h => by omega) (sortA_pw _)
def opSetSortI : Od → Option Rv
  | .d (.list ds) => match ints? ds with
    | some ns => if ns.length < 64 then some (.new (.l ((setI ns).map PyData.int))) else none
    | none => none
  | _ => none
theorem opSetSortI_s {ns : List Int} (h : ns.length < 64) : opSetSortI (.d (.list (ns.map PyData.int))) = some (.new (.l ((setI ns).map PyData.int))) := by
  unfold opSetSortI
  dsimp only
  rw [ints?_map]
  dsimp only
  rw [if_pos h]
theorem s_setSortI {K : Fg} {wd : World} : Op1S K (fun x H Q => rSetI K wd [x] H fun y H1 => rSortedSet wd [y] H1 Q) opSetSortI := by
  intro w x o rv Q hx h e q
  unfold opSetSortI at e
  split at e
  · rename_i ds
    split at e
    · rename_i ns en
      split at e
      · rename_i hok
        cases e
        obtain ⟨p, vs, rfl, hs, ra⟩ := h.list hx
        rw [ints?_eq en] at ra
        rw [rp_ints ra] at hs
        refine ⟨p, ns, rfl, hs, hok, fun a c ha hc => ?_⟩
        refine ⟨a, _, c, rfl, upd_same, by omega, fun out b pw hm hl hb => ?_⟩
        have nab : b ≠ a := fun z => by
          rw [z, upd_same] at hb
          cases hb
        have hb0 : w.H b = none := by
          rw [upd_ne nab] at hb
          exact hb
        have eo : out = setI ns := setI_eq pw fun k => by rw [hm, decide_eq_true_eq]
        have g1 : Gr w ⟨w.G, w.r, w.F, upd w.H a (SetO wd a (fun j => decide (j ∈ ns)) c)⟩ := gr_new ha
        have g2 : Gr ⟨w.G, w.r, w.F, upd w.H a (SetO wd a (fun j => decide (j ∈ ns)) c)⟩ ⟨w.G, w.r, w.F, upd (upd w.H a (SetO wd a (fun j => decide (j ∈ ns)) c)) b (.lst (out.map V.int))⟩ := gr_new (w := ⟨w.G, w.r, w.F, upd w.H a (SetO wd a (fun j => decide (j ∈ ns)) c)⟩) hb
        refine q (.ref b) _ (g1.trans g2) ⟨b, rfl, hb0, hx.free hb0, out.map V.int, upd_same, ?_⟩
        rw [← eo]
        exact rpAll_ints _
      · cases e
    · cases e
  · cases e
section
variable {X : Cx} {ec : EC} {W : WX}
theorem e_setSortI {a : Expr} {ca : CE} {p p2 q pos : Pos} (hm : X.mg "sorted" = none) (hm2 : X.mg "set" = none) (ha : Ex X ec W a ca) (hc : X.calm = true := by rfl) (hg : Gl X "sorted" := by rfl) (hg2 : Gl X "set" := by rfl)
    (h1 : starEach [a] X.env = (false, eval a X.env) :: starEach [] X.env := by rfl) (h2 : (backTo q (starEach [] X.env)).any (·.1) = false := by rfl)
    (h3 : starEach [.Call (.Name "set" p2) [a] [] q] X.env = (false, eval (.Call (.Name "set" p2) [a] [] q) X.env) :: starEach [] X.env := by rfl) (h4 : (backTo pos (starEach [] X.env)).any (·.1) = false := by rfl) :
    Ex X ec W (.Call (.Name "sorted" p) [.Call (.Name "set" p2) [a] [] q] [] pos) (cOp1 opSetSortI ca) :=
  (pe_callB (cr_sortedSet hc) hg hm boot_sorted (pa_cons (pe_callTy (cr_setI hc) hg2 hm2 boot_set (pa_cons ha pa_nil h1) (by decide) (by decide) h1 h2) pa_nil h3) (by decide) (by decide) h3 h4).imp fun _ _ _ h => op1 s_setSortI h
end
end Vm
namespace Vm
open PySem L2 PySem.Spec PyProof.Rows
/-! ### all rows of draws -/
def rowsN {α : Type} (xs : List α) : Nat → List (List α)
  | 0 => [[]]
  | m + 1 => (rowsN xs m).flatMap fun r => xs.map fun x => r ++ [x]
theorem rowsN_len {α : Type} {xs : List α} : ∀ m : Nat, (rowsN xs m).length = xs.length ^ m
  | 0 => rfl
  | m + 1 => by
    have go : ∀ l : List (List α), (l.flatMap fun r => xs.map fun x => r ++ [x]).length = l.length * xs.length := fun l => by
      induction l with
      | nil => simp
      | cons a l ih => rw [List.flatMap_cons, List.length_append, ih, List.length_map, List.length_cons, Nat.succ_mul, Nat.add_comm]
    show ((rowsN xs m).flatMap fun r => xs.map fun x => r ++ [x]).length = _
    rw [go, rowsN_len m, Nat.pow_succ]
theorem rowsN_map {α β : Type} {xs : List α} (g : α → β) : ∀ m : Nat, rowsN (xs.map g) m = (rowsN xs m).map (List.map g)
  | 0 => rfl
  | m + 1 => by
    show (rowsN (xs.map g) m).flatMap (fun r => (xs.map g).map fun x => r ++ [x]) = ((rowsN xs m).flatMap fun r => xs.map fun x => r ++ [x]).map (List.map g)
    rw [rowsN_map g m]
    generalize rowsN xs m = l
    induction l with
    | nil => rfl
    | cons a l ih =>
      rw [List.map_cons, List.flatMap_cons, List.flatMap_cons, List.map_append, ih, List.map_map, List.map_map]
      congr 1
      refine List.map_congr_left fun x _ => ?_
      show a.map g ++ [g x] = (a ++ [x]).map g
      rw [List.map_append]
      rfl
theorem rowsN_sum {α : Type} {xs : List α} {m : Nat} (ψ : List α → Int) : ((rowsN xs (m + 1)).map ψ).sum = ((rowsN xs m).map fun r => (xs.map fun x => ψ (r ++ [x])).sum).sum := by
  show (((rowsN xs m).flatMap fun r => xs.map fun x => r ++ [x]).map ψ).sum = _
  rw [sum_flatM]
  refine congrArg List.sum (List.map_congr_left fun r _ => ?_)
  rw [List.map_map]
  rfl
theorem rowsN_perm {α : Type} {xs ys : List α} (h : xs.Perm ys) : ∀ (m : Nat) (ψ : List α → Int), ((rowsN xs m).map ψ).sum = ((rowsN ys m).map ψ).sum
  | 0, _ => rfl
  | m + 1, ψ => by
    rw [rowsN_sum, rowsN_sum, rowsN_perm h m]
    exact congrArg List.sum (List.map_congr_left fun r _ => perm_sumE (h.map _))
theorem rowsN_mem {α : Type} {xs : List α} : ∀ {m : Nat} {r : List α}, r ∈ rowsN xs m → r.length = m ∧ ∀ x, x ∈ r → x ∈ xs
  | 0, r, h => by
    have h : r ∈ [[]] := h
    rw [List.mem_singleton.mp h]
    exact ⟨rfl, fun x hx => nomatch hx⟩
  | m + 1, r, h => by
    obtain ⟨r', hr, h⟩ := List.mem_flatMap.mp h
    obtain ⟨x, hx, rfl⟩ := List.mem_map.mp h
    obtain ⟨l, q⟩ := rowsN_mem hr
    refine ⟨by rw [List.length_append, l]; rfl, fun y hy => ?_⟩
    rcases List.mem_append.mp hy with z | z
    · exact q y z
    · rw [List.mem_singleton.mp z]
      exact hx
/-- so many of some, in their order -/
def csN {α : Type} : Nat → List α → List (List α)
  | 0, _ => [[]]
  | _ + 1, [] => []
  | k + 1, x :: xs => (csN k xs).map (x :: ·) ++ csN (k + 1) xs
theorem csN_map {α β : Type} (g : α → β) : ∀ (k : Nat) (xs : List α), csN k (xs.map g) = (csN k xs).map (List.map g)
  | 0, xs => by cases xs <;> rfl
  | k + 1, [] => rfl
  | k + 1, x :: xs => by
    show (csN k (xs.map g)).map (g x :: ·) ++ csN (k + 1) (xs.map g) = ((csN k xs).map (x :: ·) ++ csN (k + 1) xs).map (List.map g)
    rw [csN_map g k xs, csN_map g (k + 1) xs, List.map_append, List.map_map, List.map_map]
    rfl
def SymF {α : Type} (ψ : List α → Int) : Prop := ∀ a b : List α, a.Perm b → ψ a = ψ b
theorem csN_cons {α : Type} {k : Nat} {x : α} {xs : List α} (ψ : List α → Int) : ((csN (k + 1) (x :: xs)).map ψ).sum = ((csN k xs).map fun w => ψ (x :: w)).sum + ((csN (k + 1) xs).map ψ).sum := by
  show (((csN k xs).map (x :: ·) ++ csN (k + 1) xs).map ψ).sum = _
  rw [List.map_append, List.sum_append, List.map_map]
  rfl
theorem csN_zero {α : Type} {xs : List α} : csN 0 xs = [[]] := by cases xs <;> rfl
theorem csN_perm {α : Type} {xs ys : List α} (h : xs.Perm ys) : ∀ (k : Nat) (ψ : List α → Int), SymF ψ → ((csN k xs).map ψ).sum = ((csN k ys).map ψ).sum := by
  induction h with
  | nil => exact fun _ _ _ => rfl
  | cons x h ih =>
    intro k ψ s
    cases k with
    | zero => rw [csN_zero, csN_zero]
    | succ k => rw [csN_cons, csN_cons, ih k _ fun a b p => s _ _ (p.cons x), ih (k + 1) ψ s]
  | swap x y l =>
    intro k ψ s
    cases k with
    | zero => rw [csN_zero, csN_zero]
    | succ k =>
      rw [csN_cons, csN_cons, csN_cons ψ, csN_cons ψ]
      cases k with
      | zero =>
        rw [csN_zero, csN_zero, csN_zero]
        simp
        omega
      | succ k =>
        rw [csN_cons, csN_cons]
        have : ((csN k l).map fun w => ψ (y :: x :: w)) = (csN k l).map fun w => ψ (x :: y :: w) := List.map_congr_left fun w _ => s _ _ (List.Perm.swap x y w)
        rw [this]
        omega
  | trans _ _ i1 i2 => exact fun k ψ s => (i1 k ψ s).trans (i2 k ψ s)
/-! ### a family of draws -/
def maxN (d : List Nat) : Nat := d.foldl max 0
structure DrF (n : Nat) (Ds : List (List Nat)) (us : List Int) : Prop where
  mem : ∀ d, d ∈ Ds → d ≠ [] ∧ ∀ b, b ∈ d → b < n
  inv : ∀ s t : List Int, s.length = n → s.Perm t → ∀ ψ : List Int → Int, SymF ψ → (Ds.map fun d => ψ (d.map fun b => s.getD b 0)).sum = (Ds.map fun d => ψ (d.map fun b => t.getD b 0)).sum
  ulen : us.length = n
  cnt : ∀ r, r < n → us.getD r 0 = ((Ds.countP fun d => decide (maxN d = r) : Nat) : Int)
theorem range_getI {s : List Int} {n : Nat} (h : s.length = n) : (List.range n).map (fun b => s.getD b 0) = s := by
  subst h
  refine List.ext_getElem (by simp) fun i h1 h2 => ?_
  rw [List.getElem_map, List.getElem_range, getD_get h2]
theorem rows_inv {n m : Nat} {s t : List Int} (h : s.length = n) (p : s.Perm t) (ψ : List Int → Int) : ((rowsN (List.range n) m).map fun d => ψ (d.map fun b => s.getD b 0)).sum = ((rowsN (List.range n) m).map fun d => ψ (d.map fun b => t.getD b 0)).sum := by
  have e : ∀ s : List Int, s.length = n → ((rowsN (List.range n) m).map fun d => ψ (d.map fun b => s.getD b 0)).sum = ((rowsN s m).map ψ).sum := fun s hs => by
    have := rowsN_map (xs := List.range n) (fun b => s.getD b 0) m
    rw [range_getI hs] at this
    rw [this, List.map_map]
    rfl
  rw [e s h, e t (by rw [← p.length_eq]; exact h), rowsN_perm p]
theorem cs_inv {n k : Nat} {s t : List Int} (h : s.length = n) (p : s.Perm t) (ψ : List Int → Int) (sy : SymF ψ) : ((csN k (List.range n)).map fun d => ψ (d.map fun b => s.getD b 0)).sum = ((csN k (List.range n)).map fun d => ψ (d.map fun b => t.getD b 0)).sum := by
  have e : ∀ s : List Int, s.length = n → ((csN k (List.range n)).map fun d => ψ (d.map fun b => s.getD b 0)).sum = ((csN k s).map ψ).sum := fun s hs => by
    have := csN_map (fun b => s.getD b 0) k (List.range n)
    rw [range_getI hs] at this
    rw [this, List.map_map]
    rfl
  rw [e s h, e t (by rw [← p.length_eq]; exact h), csN_perm p k ψ sy]
theorem min_ex : ∀ {w : List Int}, w ≠ [] → ∃ m, m ∈ w ∧ ∀ y, y ∈ w → m ≤ y
  | [], h => absurd rfl h
  | [x], _ => ⟨x, by simp, fun y hy => by rw [List.mem_singleton.mp hy]; exact Int.le_refl _⟩
  | x :: y :: l, _ => by
    obtain ⟨m, h1, h2⟩ := min_ex (w := y :: l) (by simp)
    by_cases q : x ≤ m
    · refine ⟨x, List.mem_cons_self .., fun z hz => ?_⟩
      rcases List.mem_cons.mp hz with rfl | hz
      · exact Int.le_refl _
      · have := h2 z hz
        omega
    · refine ⟨m, List.mem_cons_of_mem _ h1, fun z hz => ?_⟩
      rcases List.mem_cons.mp hz with rfl | hz
      · omega
      · exact h2 z hz
theorem minI_perm {a b : List Int} (h : a.Perm b) : minI a = minI b := by
  by_cases q : a = []
  · subst q
    rw [h.nil_eq]
  · obtain ⟨m, h1, h2⟩ := min_ex q
    rw [minI_is h1 h2, minI_is (h.mem_iff.mp h1) fun y hy => h2 y (h.mem_iff.mpr hy)]
theorem maxN_ge : ∀ (d : List Nat) (a : Nat), a ≤ d.foldl max a ∧ ∀ b, b ∈ d → b ≤ d.foldl max a
  | [], a => ⟨Nat.le_refl _, fun b hb => nomatch hb⟩
  | x :: d, a => by
    obtain ⟨i1, i2⟩ := maxN_ge d (max a x)
    rw [List.foldl_cons]
    refine ⟨by omega, fun b hb => ?_⟩
    rcases List.mem_cons.mp hb with rfl | hb
    · omega
    · exact i2 b hb
theorem maxN_in : ∀ (d : List Nat) (a : Nat), d.foldl max a = a ∨ d.foldl max a ∈ d
  | [], a => .inl rfl
  | x :: d, a => by
    rw [List.foldl_cons]
    rcases maxN_in d (max a x) with q | q
    · by_cases z : a ≤ x
      · right
        rw [q, show max a x = x by omega]
        exact List.mem_cons_self ..
      · left
        omega
    · exact .inr (List.mem_cons_of_mem _ q)
theorem maxN_mem {d : List Nat} (h : d ≠ []) : maxN d ∈ d := by
  unfold maxN
  rcases maxN_in d 0 with q | q
  · obtain ⟨x, l, rfl⟩ := List.exists_cons_of_ne_nil h
    have := (maxN_ge (x :: l) 0).2 x (List.mem_cons_self ..)
    have x0 : x = 0 := by omega
    rw [q, x0]
    exact List.mem_cons_self ..
  · exact q
/-- of falling numbers the least of some stands at the greatest place -/
theorem min_fall {t : List Int} (ft : t.Pairwise (· ≥ ·)) {d : List Nat} (h : d ≠ []) (hb : ∀ b, b ∈ d → b < t.length) : minI (d.map fun b => t.getD b 0) = some (t.getD (maxN d) 0) := by
  refine minI_is (List.mem_map_of_mem (f := fun b => t.getD b 0) (maxN_mem h)) fun y hy => ?_
  obtain ⟨b, hbm, rfl⟩ := List.mem_map.mp hy
  have le := (maxN_ge d 0).2 b hbm
  have le : b ≤ maxN d := le
  have l1 := hb b hbm
  have l2 := hb _ (maxN_mem h)
  rw [getD_get l1, getD_get l2]
  by_cases q : b = maxN d
  · simp [q]
  · exact List.pairwise_iff_getElem.mp ft b (maxN d) l1 l2 (by omega)
theorem sum_cntN {n : Nat} (χ : Nat → Int) : ∀ Ds : List (List Nat), (∀ d, d ∈ Ds → maxN d < n) → (Ds.map fun d => χ (maxN d)).sum = rs n fun r => χ r * ((Ds.countP fun d => decide (maxN d = r) : Nat) : Int)
  | [], _ => by
    have : (rs n fun r => χ r * (((([] : List (List Nat)).countP fun d => decide (maxN d = r)) : Nat) : Int)) = 0 := rs_zero fun r _ => by simp
    rw [this]
    rfl
  | d :: Ds, h => by
    have ih := sum_cntN χ Ds fun x hx => h x (List.mem_cons_of_mem _ hx)
    have hd := h d (List.mem_cons_self ..)
    rw [List.map_cons, List.sum_cons, ih]
    have e : (rs n fun r => χ r * (((d :: Ds).countP fun d => decide (maxN d = r) : Nat) : Int)) = rs n fun r => χ r * ((Ds.countP fun d => decide (maxN d = r) : Nat) : Int) + if r = maxN d then χ r else 0 := rs_congr fun r _ => by
      by_cases q : maxN d = r
      · rw [List.countP_cons_of_pos (by simpa using q), if_pos q.symm]
        generalize List.countP (fun d => decide (maxN d = r)) Ds = c
        rw [show ((c + 1 : Nat) : Int) = (c : Int) + 1 by omega, Int.mul_add, Int.mul_one]
      · rw [List.countP_cons_of_neg (by simpa using q), if_neg fun z => q z.symm, Int.add_zero]
    rw [e, rs_addG, rs_single hd]
    omega
/-! ### the box that holds least, of the drawn ones -/
def goalP (last : Bool) (s : List Int) (d : List Nat) : Nat :=
  let some := d.filter fun b => decide (s.getD b 0 = (minI (d.map fun b => s.getD b 0)).getD 0)
  if last then some.getLastD 0 else some.headD 0
def stepP (last : Bool) (s : List Int) (d : List Nat) : List Int := s.set (goalP last s d) (s.getD (goalP last s d) 0 + 1)
theorem goal_spec {last : Bool} {s : List Int} {d : List Nat} (h : d ≠ []) : goalP last s d ∈ d ∧ minI (d.map fun b => s.getD b 0) = some (s.getD (goalP last s d) 0) := by
  obtain ⟨m, hm, hle⟩ := min_ex (w := d.map fun b => s.getD b 0) (by simpa using h)
  have e := minI_is hm hle
  obtain ⟨b, hb, eb⟩ := List.mem_map.mp hm
  have ne : d.filter (fun b => decide (s.getD b 0 = m)) ≠ [] := fun z => by
    have : b ∈ d.filter (fun b => decide (s.getD b 0 = m)) := List.mem_filter.mpr ⟨hb, decide_eq_true eb⟩
    rw [z] at this
    cases this
  have key : goalP last s d ∈ d.filter (fun b => decide (s.getD b 0 = m)) := by
    unfold goalP
    rw [e]
    dsimp only [Option.getD_some]
    obtain ⟨x, l, hx⟩ := List.exists_cons_of_ne_nil ne
    rw [hx]
    cases last with
    | false => exact List.mem_cons_self ..
    | true =>
      show (x :: l).getLastD 0 ∈ x :: l
      rw [List.getLastD_cons]
      by_cases q : l = []
      · subst q
        exact List.mem_cons_self ..
      · rw [List.getLastD_eq_getLast?, List.getLast?_eq_some_getLast q]
        exact List.mem_cons_of_mem _ (List.getLast_mem q)
  obtain ⟨k1, k2⟩ := List.mem_filter.mp key
  exact ⟨k1, by rw [e, of_decide_eq_true k2]⟩
theorem set_perm_cons : ∀ {l : List Int} {i : Nat}, i < l.length → ∀ a : Int, (l.set i a).Perm (a :: l.eraseIdx i)
  | x :: l, 0, _, a => List.Perm.refl _
  | x :: l, i + 1, h, a => by
    have ih := set_perm_cons (l := l) (i := i) (by simpa using h) a
    show (x :: l.set i a).Perm (a :: x :: l.eraseIdx i)
    exact (List.Perm.cons x ih).trans (List.Perm.swap a x _)
theorem get_perm_cons : ∀ {l : List Int} {i : Nat} (h : i < l.length), (l[i] :: l.eraseIdx i).Perm l
  | x :: l, 0, _ => List.Perm.refl _
  | x :: l, i + 1, h => by
    have ih := get_perm_cons (l := l) (i := i) (by simpa using h)
    show (l[i]'(by simpa using h) :: x :: l.eraseIdx i).Perm (x :: l)
    exact (List.Perm.swap x _ _).trans (List.Perm.cons x ih)
theorem set_perm_at {s t : List Int} (h : s.Perm t) {b i : Nat} (hb : b < s.length) (hi : i < t.length) (e : s.getD b 0 = t.getD i 0) (a : Int) : sortD (s.set b a) = sortD (t.set i a) := by
  rw [getD_get hb, getD_get hi] at e
  have p1 := set_perm_cons hb a
  have p2 := set_perm_cons hi a
  have q1 := get_perm_cons hb
  have q2 := get_perm_cons hi
  rw [e] at q1
  have q3 := q1.trans (h.trans q2.symm)
  have q4 := List.perm_cons _ |>.mp q3
  exact sortD_congr (p1.trans ((List.Perm.cons a q4).trans p2.symm))
theorem step_sum {n : Nat} {Ds : List (List Nat)} {us s : List Int} (D : DrF n Ds us) (last : Bool) (hs : s.length = n) (f : List Int → Int) : (Ds.map fun d => f (sortD (stepP last s d))).sum = rs n fun r => f (inc (sortD s) r) * us.getD r 0 := by
  let φ : Int → Int := fun v => f (sortD (s.set (s.idxOf v) (v + 1)))
  have at_s : ∀ b, b < n → f (sortD (s.set b (s.getD b 0 + 1))) = φ (s.getD b 0) := fun b hb => by
    have mem : s.getD b 0 ∈ s := by
      rw [getD_get (by omega)]
      exact List.getElem_mem _
    have il := List.idxOf_lt_length_of_mem mem
    have ie : s.getD b 0 = s.getD (s.idxOf (s.getD b 0)) 0 := by
      rw [getD_get il, List.getElem_idxOf]
    show _ = f (sortD (s.set (s.idxOf (s.getD b 0)) (s.getD b 0 + 1)))
    rw [set_perm_at (List.Perm.refl s) (by omega) il ie]
  have lt : (sortD s).length = n := by rw [sortD_len, hs]
  have at_t : ∀ r, r < n → f (inc (sortD s) r) = φ ((sortD s).getD r 0) := fun r hr => by
    have mem : (sortD s).getD r 0 ∈ s := by
      rw [getD_get (by omega), ← sortD_mem]
      exact List.getElem_mem _
    have il := List.idxOf_lt_length_of_mem mem
    have ie : (sortD s).getD r 0 = s.getD (s.idxOf ((sortD s).getD r 0)) 0 := by
      rw [getD_get il, List.getElem_idxOf]
    show f (sortD ((sortD s).set r ((sortD s).getD r 0 + 1))) = f (sortD (s.set (s.idxOf ((sortD s).getD r 0)) ((sortD s).getD r 0 + 1)))
    rw [set_perm_at (sortD_perm s) (by omega) il ie]
  let ψ : List Int → Int := fun w => φ ((minI w).getD 0)
  have sy : SymF ψ := fun a b p => by
    show φ ((minI a).getD 0) = φ ((minI b).getD 0)
    rw [minI_perm p]
  have e1 : (Ds.map fun d => f (sortD (stepP last s d))) = Ds.map fun d => ψ (d.map fun b => s.getD b 0) := List.map_congr_left fun d hd => by
    obtain ⟨h1, h2⟩ := D.mem d hd
    obtain ⟨g1, g2⟩ := goal_spec (last := last) (s := s) h1
    show f (sortD (s.set (goalP last s d) (s.getD (goalP last s d) 0 + 1))) = φ ((minI (d.map fun b => s.getD b 0)).getD 0)
    rw [g2, at_s _ (h2 _ g1)]
    rfl
  rw [e1, D.inv s (sortD s) hs (sortD_perm s).symm ψ sy]
  have e2 : (Ds.map fun d => ψ (d.map fun b => (sortD s).getD b 0)) = Ds.map fun d => (fun r => φ ((sortD s).getD r 0)) (maxN d) := List.map_congr_left fun d hd => by
    obtain ⟨h1, h2⟩ := D.mem d hd
    show φ ((minI (d.map fun b => (sortD s).getD b 0)).getD 0) = _
    rw [min_fall (sortD_pw s) h1 fun b hb => by rw [lt]; exact h2 b hb]
    rfl
  rw [e2]
  refine (sum_cntN (n := n) (fun r => φ ((sortD s).getD r 0)) Ds fun d hd => (D.mem d hd).2 _ (maxN_mem (D.mem d hd).1)).trans (rs_congr fun r hr => ?_)
  rw [← D.cnt r hr, at_t r hr]
/-- all rows of draws lead to what comes by the rule -/
theorem rows_IE {n b : Nat} {Ds : List (List Nat)} {us s0 : List Int} (D : DrF n Ds us) (last : Bool) (hs : s0.length = n) (nn : ∀ u, u ∈ us → 0 ≤ u) (sw : ∀ i, (keys (CmS us [(sortD s0, 1)] i)).Nodup) : ∀ (m : Nat) (f : List Int → Int), ((rowsN Ds m).map fun row => f (sortD (row.foldl (stepP last) s0))).sum = IE (CmS us [(sortD s0, 1)] m) f
  | 0, f => by
    show ([[]].map fun row => f (sortD (List.foldl (stepP last) s0 row))).sum = IE [(sortD s0, 1)] f
    rw [IE_cons]
    simp [IE]
  | m + 1, f => by
    have len : ∀ (row : List (List Nat)) (s : List Int), s.length = n → (row.foldl (stepP last) s).length = n := fun row => by
      induction row with
      | nil => exact fun s h => h
      | cons d row ih =>
        intro s h
        rw [List.foldl_cons]
        exact ih _ (by unfold stepP; rw [List.length_set]; exact h)
    rw [rowsN_sum]
    have e : ((rowsN Ds m).map fun r => (Ds.map fun x => f (sortD ((r ++ [x]).foldl (stepP last) s0))).sum) = (rowsN Ds m).map fun r => (fun k => rs us.length fun j => f (inc k j) * us.getD j 0) (sortD (r.foldl (stepP last) s0)) := List.map_congr_left fun r _ => by
      have := step_sum D last (len r s0 hs) f
      rw [D.ulen]
      show _ = rs n fun j => f (inc (sortD (r.foldl (stepP last) s0)) j) * us.getD j 0
      rw [← this]
      refine congrArg List.sum (List.map_congr_left fun x _ => ?_)
      rw [List.foldl_append]
      rfl
    have ih := rows_IE (b := b) D last hs nn sw m fun k => rs us.length fun j => f (inc k j) * us.getD j 0
    rw [e]
    exact ih.trans (IE_come nn (sw m) f).symm
/-- all rows of ranks, by their weights -/
theorem ranks_IE {us k0 : List Int} (nn : ∀ u, u ∈ us → 0 ≤ u) (sw : ∀ i, (keys (CmS us [(k0, 1)] i)).Nodup) : ∀ (m : Nat) (f : List Int → Int), ((rowsN (List.range us.length) m).map fun row => f (row.foldl inc k0) * (row.map fun r => us.getD r 0).foldl (· * ·) 1).sum = IE (CmS us [(k0, 1)] m) f
  | 0, f => by
    show ([[]].map fun row => f (List.foldl inc k0 row) * (List.map (fun r => us.getD r 0) row).foldl (· * ·) 1).sum = IE [(k0, 1)] f
    rw [IE_cons]
    simp [IE]
  | m + 1, f => by
    rw [rowsN_sum]
    have e : ((rowsN (List.range us.length) m).map fun r => ((List.range us.length).map fun x => f ((r ++ [x]).foldl inc k0) * ((r ++ [x]).map fun r => us.getD r 0).foldl (· * ·) 1).sum) = (rowsN (List.range us.length) m).map fun r => (fun k => rs us.length fun j => f (inc k j) * us.getD j 0) (r.foldl inc k0) * (r.map fun r => us.getD r 0).foldl (· * ·) 1 := List.map_congr_left fun r _ => by
      show (rs us.length fun x => f ((r ++ [x]).foldl inc k0) * ((r ++ [x]).map fun r => us.getD r 0).foldl (· * ·) 1) = (rs us.length fun j => f (inc (r.foldl inc k0) j) * us.getD j 0) * _
      rw [Int.mul_comm (rs us.length _), ← rs_mulR]
      refine rs_congr fun x _ => ?_
      rw [List.foldl_append, List.map_append, List.foldl_append]
      show f (inc (r.foldl inc k0) x) * ((r.map fun r => us.getD r 0).foldl (· * ·) 1 * us.getD x 0) = _
      grind
    have ih := ranks_IE nn sw m fun k => rs us.length fun j => f (inc k j) * us.getD j 0
    rw [e]
    exact ih.trans (IE_come nn (sw m) f).symm
end Vm
namespace Vm
open PySem L2
def c_measure : CS :=
 (cSeq (cWh (fun _ => 1000000) (cB (cOp2 opGt (cVar 1) (cC (.int 0))))
 (cPar 0 1 (cVar 1) (cOp2 opMod (cVar 0) (cVar 1))))
 (cRet (cVar 0)))
abbrev f_measure : Fn := fMeasure
def c_share : CS :=
 (cSeq (cIfS (cB (cOp2 opEq (cVar 1) (cC (.int 0))))
 (cRaise "NoShare")
 cNx)
 (cSeq (cSet 2 (cCallP f_measure (lCons (cOp1 opAbs (cVar 0)) (lCons (cOp1 opAbs (cVar 1)) lNil))))
 (cSeq (cIfS (cB (cOp2 opLt (cVar 1) (cC (.int 0))))
 (cSet 2 (cOp2 opSub (cC (.int 0)) (cVar 2)))
 cNx)
 (cRet (cTup (cCons (cOp2 opDiv (cVar 0) (cVar 2)) (cCons (cOp2 opDiv (cVar 1) (cVar 2)) cNil)))))))
abbrev f_share : Fn := fShare
def c_plus : CS :=
 (cRet (cCallP f_share (lCons (cOp2 opAdd (cOp2 opMulV (cOp2 opIx (cVar 0) (cC (.int 0))) (cOp2 opIx (cVar 1) (cC (.int 1)))) (cOp2 opMulV (cOp2 opIx (cVar 1) (cC (.int 0))) (cOp2 opIx (cVar 0) (cC (.int 1))))) (lCons (cOp2 opMulV (cOp2 opIx (cVar 0) (cC (.int 1))) (cOp2 opIx (cVar 1) (cC (.int 1)))) lNil))))
abbrev f_plus : Fn := fPlus
def c_minus : CS :=
 (cRet (cCallP f_share (lCons (cOp2 opSub (cOp2 opMulV (cOp2 opIx (cVar 0) (cC (.int 0))) (cOp2 opIx (cVar 1) (cC (.int 1)))) (cOp2 opMulV (cOp2 opIx (cVar 1) (cC (.int 0))) (cOp2 opIx (cVar 0) (cC (.int 1))))) (lCons (cOp2 opMulV (cOp2 opIx (cVar 0) (cC (.int 1))) (cOp2 opIx (cVar 1) (cC (.int 1)))) lNil))))
abbrev f_minus : Fn := fMinus
def c_times : CS :=
 (cRet (cCallP f_share (lCons (cOp2 opMulV (cOp2 opIx (cVar 0) (cC (.int 0))) (cOp2 opIx (cVar 1) (cC (.int 0)))) (lCons (cOp2 opMulV (cOp2 opIx (cVar 0) (cC (.int 1))) (cOp2 opIx (cVar 1) (cC (.int 1)))) lNil))))
abbrev f_times : Fn := fTimes
def c_total : CS :=
 (cSeq (cSet 1 (cTup (cCons (cC (.int 0)) (cCons (cC (.int 1)) cNil))))
 (cSeq (cFor (ciSeq (cVar 0)) (tgN 2)
 (cSet 1 (cCallP f_plus (lCons (cVar 1) (lCons (cVar 2) lNil)))))
 (cRet (cVar 1))))
abbrev f_total : Fn := fTotal
def c_sorted_load : CS :=
 (cRet (cOp1 opTuple (cOp1 opSortedR (cVar 0))))
abbrev f_sorted_load : Fn := fSortedL
def c_changed_at : CS :=
 (cSeq (cSetM 3 (cOp1 opList (cVar 0)))
 (cSeq (cPutL (cVar 3) (cVar 1) (cOp2 opAdd (cOp2 opIx (cVar 3) (cVar 1)) (cVar 2)))
 (cRet (cCallP f_sorted_load (lCons (cFz 3) lNil)))))
abbrev f_changed_at : Fn := fChangedAt
def c_put_at : CS :=
 (cRet (cCallP f_changed_at (lCons (cVar 0) (lCons (cVar 1) (lCons (cC (.int 1)) lNil)))))
abbrev f_put_at : Fn := fPutAt
def c_alone : CS :=
 (cRet (cLst (cCons (cTup (cCons (cVar 0) (cCons (cTup (cCons (cC (.int 1)) (cCons (cC (.int 1)) cNil))) cNil))) cNil)))
abbrev f_alone : Fn := fAlone
def c_gathered : CS :=
 (cRet (cLc [1] (ciSeq (cOp1 opSortedX (cVar 0))) (tgN 1) ctYes (cTup (cCons (cVar 1) (cCons (cCallP f_total (lCons (cOp2 opItem (cVar 0) (cVar 1)) lNil)) cNil)))))
abbrev f_gathered : Fn := fGathered
def c_need_alike : CS :=
 (cIfS (cB (cOp2 opNe (cOp1 opLen (cVar 0)) (cOp1 opLen (cOp2 opIx (cOp2 opIx (cVar 1) (cC (.int 0))) (cC (.int 0))))))
 (cRaise "Unlike")
 cNx)
abbrev f_need_alike : Fn := fNeedRS
def c_put_freely : CS :=
 (cSeq (cSetM 2 cNewR)
 (cSeq (cFor (ciSeq (cVar 1)) (tgTup 2 (tgCons (tgN 3) (tgCons (tgN 4) tgNil)))
 (cFor (ciEnum (cVar 0)) (tgTup 2 (tgCons (tgN 5) (tgCons (tgN 6) tgNil)))
 (cIfS (cB (cOp2 opGt (cOp2 opIx (cVar 6) (cC (.int 0))) (cC (.int 0))))
 (cExp (cAppI (cSetd (cVar 2) (cCallP f_put_at (lCons (cVar 3) (lCons (cVar 5) lNil)))) (cCons (cCallP f_times (lCons (cVar 4) (lCons (cVar 6) lNil))) cNil)))
 cNx)))
 (cRet (cCallP f_gathered (lCons (cFzR 2) lNil)))))
abbrev f_put_freely : Fn := fPutF
def c_put : CS :=
 (cSeq (cExp (cCallP f_need_alike (lCons (cVar 0) (lCons (cVar 1) lNil))))
 (cSeq (cSetM 2 (cCallP f_put_freely (lCons (cVar 0) (lCons (cVar 1) lNil))))
 (cSeq (cIfS (cB (cOp2 opGt (cOp1 opLen (cVar 2)) (cC (.int 60))))
 (cRaise "TooMany")
 cNx)
 (cRet (cVar 2)))))
abbrev f_put : Fn := fPutS
def c_after : CS :=
 (cSeq (cExp (cCallP f_need_alike (lCons (cVar 0) (lCons (cVar 1) lNil))))
 (cSeq (cSetM 3 (cOp1 opList (cVar 1)))
 (cSeq (cFor (ciR1 (cVar 2)) (tgN 4)
 (cSetM 3 (cCallP f_put (lCons (cVar 0) (lCons (cFz 3) lNil)))))
 (cRet (cVar 3)))))
abbrev f_after : Fn := fAfterS
def c_worth : CS :=
 (cSeq (cIfS (cB (cOp2 opEq (cVar 1) (cC (.str "fullest"))))
 (cRet (cOp2 opIx (cVar 0) (cC (.int 0))))
 cNx)
 (cSeq (cIfS (cB (cOp2 opEq (cVar 1) (cC (.str "emptiest"))))
 (cRet (cOp2 opIx (cVar 0) (cOp1 opNeg (cC (.int 1)))))
 cNx)
 (cSeq (cIfS (cB (cOp2 opEq (cVar 1) (cC (.str "gap"))))
 (cRet (cOp2 opSub (cOp2 opIx (cVar 0) (cC (.int 0))) (cOp2 opIx (cVar 0) (cOp1 opNeg (cC (.int 1))))))
 cNx)
 (cRet (cOp1 opSum (cLc [2] (ciSeq (cVar 0)) (tgN 2) ctYes (cOp2 opMulV (cVar 2) (cVar 2))))))))
abbrev f_worth : Fn := fWorth
def c_mean : CS :=
 (cRet (cCallP f_total (lCons (cLc [2, 3] (ciSeq (cVar 0)) (tgTup 2 (tgCons (tgN 2) (tgCons (tgN 3) tgNil))) ctYes (cCallP f_times (lCons (cVar 3) (lCons (cTup (cCons (cCallP f_worth (lCons (cVar 2) (lCons (cVar 1) lNil))) (cCons (cC (.int 1)) cNil))) lNil)))) lNil)))
abbrev f_mean : Fn := fMean
def c_by_sums : CS :=
 (cSeq (cSetM 1 (cLst cNil))
 (cSeq (cSet 2 (cTup (cCons (cC (.int 0)) (cCons (cC (.int 1)) cNil))))
 (cSeq (cFor (ciSeq (cVar 0)) (tgN 3)
 (cSeq (cExp (cMut fApp (cVar 1) (cCons (cCallP f_minus (lCons (cVar 3) (lCons (cVar 2) lNil))) cNil)))
 (cSet 2 (cVar 3))))
 (cRet (cOp1 opTuple (cVar 1))))))
abbrev f_by_sums : Fn := fBySums
def c_power : CS :=
 (cSeq (cSet 2 (cC (.int 1)))
 (cSeq (cFor (ciR1 (cVar 1)) (tgN 3)
 (cSet 2 (cOp2 opMulV (cVar 2) (cVar 0))))
 (cRet (cVar 2))))
abbrev f_power : Fn := fPower
def c_sets_of : CS :=
 (cSeq (cSet 2 (cC (.int 1)))
 (cSeq (cFor (ciR1 (cVar 1)) (tgN 3)
 (cSet 2 (cOp2 opDiv (cOp2 opMulV (cVar 2) (cOp2 opSub (cVar 0) (cVar 3))) (cOp2 opAdd (cVar 3) (cC (.int 1))))))
 (cRet (cVar 2))))
abbrev f_sets_of : Fn := fSetsOf
def c_drawn : CS :=
 (cRet (cCallP f_by_sums (lCons (cLc [2] (ciR1 (cVar 0)) (tgN 2) ctYes (cCallP f_share (lCons (cCallP f_power (lCons (cOp2 opAdd (cVar 2) (cC (.int 1))) (lCons (cVar 1) lNil))) (lCons (cCallP f_power (lCons (cVar 0) (lCons (cVar 1) lNil))) lNil)))) lNil)))
abbrev f_drawn : Fn := fDrawn
def c_unlike : CS :=
 (cRet (cCallP f_by_sums (lCons (cLc [2] (ciR1 (cVar 0)) (tgN 2) ctYes (cCallP f_share (lCons (cCallP f_sets_of (lCons (cOp2 opAdd (cVar 2) (cC (.int 1))) (lCons (cVar 1) lNil))) (lCons (cCallP f_sets_of (lCons (cVar 0) (lCons (cVar 1) lNil))) lNil)))) lNil)))
abbrev f_unlike : Fn := fUnlike
def c__law_pen : CS :=
 (cRet (cDisp [(.inr "cells"), (.inr "at"), (.inr "left")] (cCons (cSl (cVar 0) (cPt none) (cPt (some (cC (.int 63))))) (cCons (cC (.int 0)) (cCons (cC (.int 0)) cNil)))))
abbrev f__law_pen : Fn := fPen
def c__law_draw : CS :=
 (cSeq (cIfS (cB (cOp2 opGt (cOp2 opItem (cVar 0) (cC (.str "left"))) (cC (.int 0))))
 (cSeq (cSet 2 (cOp2 opMod (cOp2 opItem (cVar 0) (cC (.str "left"))) (cVar 1)))
 (cSeq (cPut (cVar 0) (cC (.str "left")) (cOp2 opDiv (cOp2 opItem (cVar 0) (cC (.str "left"))) (cVar 1)))
 (cRet (cVar 2))))
 cNx)
 (cSeq (cSet 3 (cOp2 opItem (cVar 0) (cC (.str "at"))))
 (cSeq (cPut (cVar 0) (cC (.str "at")) (cOp2 opAdd (cVar 3) (cC (.int 1))))
 (cSeq (cSet 4 (cOp2 opAdd (cOp2 opMulV (cOp2 opMulV (cC (.int 11)) (cVar 3)) (cVar 3)) (cC (.int 5))))
 (cSeq (cIfS (cB (cOp2 opGt (cOp1 opLen (cOp2 opItem (cVar 0) (cC (.str "cells")))) (cC (.int 0))))
 (cSet 4 (cOp2 opIx (cOp2 opItem (cVar 0) (cC (.str "cells"))) (cOp2 opMod (cVar 3) (cOp1 opLen (cOp2 opItem (cVar 0) (cC (.str "cells")))))))
 cNx)
 (cSeq (cIfS (tAnd' (cB (cOp2 opLt (cVar 3) (cOp1 opLen (cOp2 opItem (cVar 0) (cC (.str "cells")))))) (cB (cOp2 opGe (cOp1 opAbs (cVar 4)) (cOp2 opPow (cC (.int 10)) (cC (.int 18))))))
 (cSeq (cPut (cVar 0) (cC (.str "left")) (cOp2 opDiv (cOp1 opAbs (cVar 4)) (cVar 1)))
 (cRet (cOp2 opMod (cOp1 opAbs (cVar 4)) (cVar 1))))
 cNx)
 (cSeq (cSet 5 (cOp2 opMod (cOp2 opMulV (cOp2 opAdd (cOp2 opAdd (cOp2 opMod (cVar 4) (cC (.int 2147483629))) (cOp2 opMulV (cC (.int 104729)) (cVar 3))) (cC (.int 1))) (cC (.int 48271))) (cC (.int 2147483647))))
 (cSeq (cSet 5 (cOp2 opMod (cOp2 opAdd (cOp2 opAdd (cOp2 opMulV (cVar 5) (cVar 5)) (cOp2 opMulV (cC (.int 69621)) (cVar 5))) (cVar 3)) (cC (.int 2147483587))))
 (cSeq (cSet 5 (cOp2 opMod (cOp2 opMulV (cVar 5) (cOp2 opAdd (cOp2 opMod (cVar 5) (cC (.int 65521))) (cC (.int 3)))) (cC (.int 2147483579))))
 (cRet (cOp2 opMod (cOp2 opDiv (cVar 5) (cC (.int 64))) (cVar 1))))))))))))
abbrev f__law_draw : Fn := fDrawB
def c__law_measure : CS :=
 (cSeq (cWh (fun _ => 1000000) (cB (cOp2 opGt (cVar 1) (cC (.int 0))))
 (cPar 0 1 (cVar 1) (cOp2 opMod (cVar 0) (cVar 1))))
 (cRet (cVar 0)))
abbrev f__law_measure : Fn := fMeasure
def c__law_lowest : CS :=
 (cSeq (cSet 2 (cCallP f__law_measure (lCons (cVar 0) (lCons (cVar 1) lNil))))
 (cRet (cTup (cCons (cOp2 opDiv (cVar 0) (cVar 2)) (cCons (cOp2 opDiv (cVar 1) (cVar 2)) cNil)))))
abbrev f__law_lowest : Fn := fLawLowest
def c__law_weights : CS :=
 (cSeq (cSet 2 (cCall f__law_draw (lCons (cVar 0) (lCons (cC (.int 6)) lNil))))
 (cSeq (cSetM 3 (cLc [5] (ciR1 (cVar 1)) (tgN 5) ctYes (cCall f__law_draw (lCons (cVar 0) (lCons (cOp2 opIx (cLst (cCons (cC (.int 10)) (cCons (cC (.int 2)) (cCons (cC (.int 4)) (cCons (cC (.int 10)) (cCons (cC (.int 10)) (cCons (cC (.int 80)) cNil))))))) (cVar 2)) lNil)))))
 (cSeq (cSet 4 (cCall f__law_draw (lCons (cVar 0) (lCons (cVar 1) lNil))))
 (cSeq (cIfS (cB (cOp2 opEq (cVar 2) (cC (.int 3))))
 (cSetM 3 (cLc [5] (ciR1 (cVar 1)) (tgN 5) ctYes (cOp1 opInt (cOp2 opEq (cVar 5) (cVar 4)))))
 cNx)
 (cSeq (cIfS (cB (cOp2 opEq (cVar 2) (cC (.int 4))))
 (cSetM 3 (cOp2 opAdd (cOp2 opMulV (cLst (cCons (cC (.int 0)) cNil)) (cVar 4)) (cSl (cVar 3) (cPt (some (cVar 4))) (cPt none))))
 cNx)
 (cSeq (cIfS (cB (cOp2 opEq (cOp1 opSum (cVar 3)) (cC (.int 0))))
 (cPutL (cVar 3) (cVar 4) (cOp2 opAdd (cC (.int 1)) (cCall f__law_draw (lCons (cVar 0) (lCons (cC (.int 9)) lNil)))))
 cNx)
 (cRet (cVar 3))))))))
abbrev f__law_weights : Fn := fWeightsB
def c__law_rule : CS :=
 (cRet (cOp1 opTuple (cLc [1] (ciSeq (cVar 0)) (tgN 1) ctYes (cCallP f__law_lowest (lCons (cVar 1) (lCons (cOp1 opSum (cVar 0)) lNil))))))
abbrev f__law_rule : Fn := fRuleB
def c__law_spread : CS :=
 (cSeq (cSet 1 (cOp1 opSumV (cVar 0)))
 (cRet (cLc [2] (ciSeq (cOp1 opSortedX (cVar 0))) (tgN 2) ctYes (cTup (cCons (cVar 2) (cCons (cCallP f__law_lowest (lCons (cOp2 opItem (cVar 0) (cVar 2)) (lCons (cVar 1) lNil))) cNil))))))
abbrev f__law_spread : Fn := fLawSpr
def c__law_rows : CS :=
 (cSeq (cSet 2 (cLst (cCons (cLst cNil) cNil)))
 (cSeq (cFor (ciR1 (cVar 1)) (tgN 3)
 (cSeq (cSetM 4 (cLst cNil))
 (cSeq (cFor (ciSeq (cVar 2)) (tgN 5)
 (cExp (cMut fExt (cVar 4) (cCons (cLc [6] (ciSeq (cVar 0)) (tgN 6) ctYes (cOp2 opAdd (cVar 5) (cLst (cCons (cVar 6) cNil)))) cNil))))
 (cSet 2 (cFz 4)))))
 (cRet (cVar 2))))
def f__law_rows : Fn := runF 7 c__law_rows
def c__law_sets : CS :=
 (cRet (cLc [2] (ciSeq (cCallP f__law_rows (lCons (cOp1 opListRg (cVar 0)) (lCons (cVar 1) lNil)))) (tgN 2) (cB (cOp2 opEq (cOp1 opSetSortI (cVar 2)) (cVar 2))) (cVar 2)))
def f__law_sets : Fn := runF 3 c__law_sets
def c__law_goal : CS :=
 (cSeq (cSet 3 (cLc [4] (ciSeq (cVar 1)) (tgN 4) (cB (cOp2 opEq (cOp2 opIx (cVar 0) (cVar 4)) (cOp1 opMin (cLc [5] (ciSeq (cVar 1)) (tgN 5) ctYes (cOp2 opIx (cVar 0) (cVar 5)))))) (cVar 4)))
 (cRet (cOp2 opIx (cLst (cCons (cOp2 opIx (cVar 3) (cC (.int 0))) (cCons (cOp2 opIx (cVar 3) (cOp1 opNeg (cC (.int 1)))) cNil))) (cOp1 opInt (cVar 2)))))
def f__law_goal : Fn := runF 6 c__law_goal
def c__law_counts : CS :=
 (cSeq (cSetM 4 cNewT)
 (cSeq (cFor (ciSeq (cCallP f__law_rows (lCons (cVar 1) (lCons (cVar 2) lNil)))) (tgN 5)
 (cSeq (cSetM 6 (cOp1 opList (cVar 0)))
 (cSeq (cFor (ciSeq (cVar 5)) (tgN 7)
 (cSeq (cSet 8 (cCallV f__law_goal (lLend 6 (lCons (cVar 7) (lCons (cVar 3) lNil)))))
 (cPutL (cVar 6) (cVar 8) (cOp2 opAdd (cOp2 opIx (cVar 6) (cVar 8)) (cC (.int 1))))))
 (cSeq (cSet 9 (cOp1 opTuple (cOp1 opSortedR (cVar 6))))
 (cPut (cVar 4) (cVar 9) (cOp2 opAdd (cGet (cVar 4) (cVar 9) (cC (.int 0))) (cC (.int 1))))))))
 (cRet (cVar 4))))
def f__law_counts : Fn := runF 10 c__law_counts
def c__law_by_ranks : CS :=
 (cSeq (cSetM 3 cNewT)
 (cSeq (cFor (ciSeq (cCallP f__law_rows (lCons (cOp1 opListRg (cOp1 opLen (cVar 1))) (lCons (cVar 2) lNil)))) (tgN 4)
 (cSeq (cSetM 5 (cOp1 opList (cVar 0)))
 (cSeq (cSet 6 (cC (.int 1)))
 (cSeq (cFor (ciSeq (cVar 4)) (tgN 7)
 (cSeq (cPutL (cVar 5) (cVar 7) (cOp2 opAdd (cOp2 opIx (cVar 5) (cVar 7)) (cC (.int 1))))
 (cSeq (cSetM 5 (cOp1 opSortedR (cVar 5)))
 (cSet 6 (cOp2 opMulV (cVar 6) (cOp2 opIx (cVar 1) (cVar 7)))))))
 (cIfS (cB (cOp2 opGt (cVar 6) (cC (.int 0))))
 (cPut (cVar 3) (cOp1 opTuple (cVar 5)) (cOp2 opAdd (cGet (cVar 3) (cOp1 opTuple (cVar 5)) (cC (.int 0))) (cVar 6)))
 cNx)))))
 (cRet (cVar 3))))
def f__law_by_ranks : Fn := runF 8 c__law_by_ranks
def c__law_few : CS :=
 (cSeq (cSet 2 (cC (.int 1)))
 (cSeq (cFor (ciR1 (cVar 1)) (tgN 3)
 (cSeq (cSet 2 (cOp2 opMulV (cVar 2) (cVar 0)))
 (cIfS (cB (cOp2 opGt (cVar 2) (cC (.int 300))))
 (cRet (cVar 3))
 cNx)))
 (cRet (cVar 1))))
def f__law_few : Fn := runF 4 c__law_few
def c__law_right : CS :=
 (cSeq (cIfS (cB (cOp2 opNe (cOp1 opRepr (cVar 0)) (cOp1 opRepr (cCallP f__law_spread (lCons (cVar 1) lNil)))))
 (cRet (cC (.bool false)))
 cNx)
 (cSeq (cSet 2 (cOp1 opSum (cLc [3] (ciKeyT (cVar 1)) (tgN 3) ctYes (cOp2 opMulV (cOp2 opItem (cVar 1) (cVar 3)) (cOp2 opIx (cVar 3) (cC (.int 0)))))))
 (cRet (cOp2 opEq (cCallP f_mean (lCons (cVar 0) (lCons (cC (.str "fullest")) lNil))) (cCallP f__law_lowest (lCons (cVar 2) (lCons (cOp1 opSumV (cVar 1)) lNil)))))))
def f__law_right : Fn := runF 4 c__law_right
def c_law : CS :=
 (cSeq (cSetM 1 (cCallP f__law_pen (lCons (cVar 0) lNil)))
 (cSeq (cSet 2 (cLst (cCons (cTup (cCons (cC (.int 2)) (cCons (cC (.int 2)) (cCons (cC (.int 4)) cNil)))) (cCons (cTup (cCons (cC (.int 2)) (cCons (cC (.int 4)) (cCons (cC (.int 2)) cNil)))) (cCons (cTup (cCons (cC (.int 3)) (cCons (cC (.int 2)) (cCons (cC (.int 2)) cNil)))) (cCons (cTup (cCons (cC (.int 4)) (cCons (cC (.int 2)) (cCons (cC (.int 2)) cNil)))) (cCons (cTup (cCons (cC (.int 2)) (cCons (cC (.int 3)) (cCons (cC (.int 2)) cNil)))) (cCons (cTup (cCons (cC (.int 5)) (cCons (cC (.int 1)) (cCons (cC (.int 3)) cNil)))) (cCons (cTup (cCons (cC (.int 3)) (cCons (cC (.int 1)) (cCons (cC (.int 5)) cNil)))) (cCons (cTup (cCons (cC (.int 6)) (cCons (cC (.int 3)) (cCons (cC (.int 1)) cNil)))) cNil))))))))))
 (cSeq (cAsg (tgTup 3 (tgCons (tgN 3) (tgCons (tgN 4) (tgCons (tgN 5) tgNil)))) (cOp2 opIx (cOp2 opAdd (cVar 2) (cLst (cCons (cTup (cCons (cC (.int 1)) (cCons (cC (.int 2)) (cCons (cC (.int 3)) cNil)))) (cCons (cTup (cCons (cC (.int 4)) (cCons (cC (.int 4)) (cCons (cC (.int 1)) cNil)))) cNil)))) (cCall f__law_draw (lCons (cVar 1) (lCons (cC (.int 10)) lNil)))))
 (cSeq (cSet 6 (cOp2 opEq (cCall f__law_draw (lCons (cVar 1) (lCons (cC (.int 2)) lNil))) (cC (.int 1))))
 (cSeq (cSet 7 (cLc [13] (ciR1 (cVar 3)) (tgN 13) ctYes (cCall f__law_draw (lCons (cVar 1) (lCons (cOp2 opIx (cLst (cCons (cC (.int 1)) (cCons (cC (.int 3)) cNil))) (cCall f__law_draw (lCons (cVar 1) (lCons (cC (.int 2)) lNil)))) lNil)))))
 (cSeq (cSet 8 (cOp1 opTuple (cOp1 opSortedR (cVar 7))))
 (cSeq (cSet 9 (cCallP f__law_rows (lCons (cOp1 opListRg (cVar 3)) (lCons (cVar 4) lNil))))
 (cSeq (cIfS (tNot' (cTru (cCallP f__law_right (lCons (cCallP f_after (lCons (cCallP f_drawn (lCons (cVar 3) (lCons (cVar 4) lNil))) (lCons (cCallP f_alone (lCons (cVar 8) lNil)) (lCons (cVar 5) lNil)))) (lCons (cLk (cCallP f__law_counts (lCons (cVar 7) (lCons (cVar 9) (lCons (cVar 5) (lCons (cVar 6) lNil)))))) lNil)))))
 (cRet (cC (.bool false)))
 cNx)
 (cSeq (cSet 10 (cOp2 opAdd (cC (.int 1)) (cCall f__law_draw (lCons (cVar 1) (lCons (cOp2 opMin2 (cVar 3) (cC (.int 4))) lNil)))))
 (cSeq (cSet 11 (cCallP f__law_sets (lCons (cVar 3) (lCons (cVar 10) lNil))))
 (cSeq (cSet 5 (cCallP f__law_few (lCons (cOp1 opLen (cVar 11)) (lCons (cVar 5) lNil))))
 (cSeq (cIfS (tNot' (cTru (cCallP f__law_right (lCons (cCallP f_after (lCons (cCallP f_unlike (lCons (cVar 3) (lCons (cVar 10) lNil))) (lCons (cCallP f_alone (lCons (cVar 8) lNil)) (lCons (cVar 5) lNil)))) (lCons (cLk (cCallP f__law_counts (lCons (cVar 7) (lCons (cVar 11) (lCons (cVar 5) (lCons (cVar 6) lNil)))))) lNil)))))
 (cRet (cC (.bool false)))
 cNx)
 (cSeq (cSet 5 (cCallP f__law_few (lCons (cVar 3) (lCons (cVar 5) lNil))))
 (cSeq (cSet 12 (cCall f__law_weights (lCons (cVar 1) (lCons (cVar 3) lNil))))
 (cRet (cCallP f__law_right (lCons (cCallP f_after (lCons (cCallP f__law_rule (lCons (cVar 12) lNil)) (lCons (cCallP f_alone (lCons (cVar 8) lNil)) (lCons (cVar 5) lNil)))) (lCons (cLk (cCallP f__law_by_ranks (lCons (cVar 8) (lCons (cVar 12) (lCons (cVar 5) lNil))))) lNil))))))))))))))))))
def f_law : Fn := runF 14 c_law
end Vm
namespace Vm
open PySem L2 PySem.Spec PyProof.Rows
theorem ext_at {i n : Nat} {v : List Sl} {m : List Cell} {xs ys : List D} {ca : CA} (h1 : v[i]? = some (.c n)) (h2 : m[n]? = some (.l xs)) (h3 : ca ⟨v, m⟩ = .ok [.list ys] ⟨v, m⟩) (l : xs.length + ys.length ≤ 16000000) : cExp (cMut fExt (cVar i) ca) ⟨v, m⟩ = .nx ⟨v, m.set n (.l (xs ++ ys))⟩ := by
  have fa := fExt_s (xs := xs) (ys := ys) l
  simp [h1, mutR_s (s1 := ⟨v, m⟩) h2, h3, h2, fa]
def cutR {α : Type} (xs : List α) (l : List (List α)) : List (List α) := l.flatMap fun r => xs.map fun x => r ++ [x]
theorem cutR_len {α : Type} {xs : List α} : ∀ l : List (List α), (cutR xs l).length = l.length * xs.length
  | [] => by simp [cutR]
  | a :: l => by
    have ih := cutR_len (xs := xs) l
    unfold cutR at *
    rw [List.flatMap_cons, List.length_append, ih, List.length_map, List.length_cons, Nat.succ_mul, Nat.add_comm]
theorem rows_ok {xs : List D} {m : Nat} (hx : xs.length ≤ 2000) (hm : m ≤ 1000) (hB : ∀ k, k ≤ m → xs.length ^ k ≤ 2000) : f__law_rows [.d (.list xs), .d (.int (m : Nat))] [] = .ok (.d (.list ((rowsN xs m).map .list))) [] := by
  apply Ok.eq
  unfold f__law_rows
  refine run_ok ?_
  unfold c__law_rows
  let dm : Sl := .d (.int (m : Nat))
  let R := fun k => PyData.list ((rowsN xs k).map PyData.list)
  obtain ⟨X, hX⟩ : ∃ X, PyData.list xs = X := ⟨_, rfl⟩
  have sqX : ∀ v m, ciSeq (cVar 0) ⟨.d X :: v, m⟩ = .ok xs ⟨.d X :: v, m⟩ := fun v m => by rw [← hX]; simp
  rw [hX]
  let ST := fun (x2 x3 x4 x5 : Sl) (r : List Cell) => (⟨[.d X, dm, x2, x3, x4, x5, .u], r⟩ : S)
  refine st (s1 := ST (.d (R 0)) .u .u .u []) (by simp [ST]; exact .rfl) ?_
  have rg := ciR1_n (c := cVar 1) (s := ST (.d (R 0)) .u .u .u []) (s1 := ST (.d (R 0)) .u .u .u []) (n := m) (by simp [ST, dm]) (by omega)
  refine w_cut (fun s => ∃ x3 x4 x5 r, s = ST (.d (R m)) x3 x4 x5 r) ?_ fun s hs => ?_
  · refine w_for (fun k s => ∃ x3 x4 x5 r, s = ST (.d (R k)) x3 x4 x5 r) (by exact rg) ⟨_, _, _, _, rfl⟩ (fun k d s hd hi => ?_) fun s hs => by
      rw [List.length_map, List.length_range] at hs
      exact hs
    obtain ⟨x3, x4, x5, r, rfl⟩ := hi
    obtain ⟨hk, rfl⟩ := rangeN_get hd
    let d3 : Sl := .d (.int (k : Int))
    have lk : (rowsN xs k).length ≤ 2000 := by rw [rowsN_len]; exact hB k (by omega)
    have lk1 : (rowsN xs k).length * xs.length ≤ 2000 := by
      have := hB (k + 1) (by omega)
      rw [rowsN_len, ← Nat.pow_succ]
      exact this
    refine ⟨ST (.d (R k)) d3 x4 x5 r, rfl, ?_⟩
    let c4 : Sl := .c r.length
    refine st (s1 := ST (.d (R k)) d3 c4 x5 (r ++ [.l []])) (by simp [ST, c4]; exact .rfl) ?_
    refine w_cut (fun s => ∃ x5, s = ST (.d (R k)) d3 c4 x5 (r ++ [.l ((rowsN xs (k + 1)).map .list)])) ?_ fun s hs => ?_
    · refine w_for (ds := (rowsN xs k).map PyData.list) (s1 := ST (.d (R k)) d3 c4 x5 (r ++ [.l []])) (fun j s => ∃ x5, s = ST (.d (R k)) d3 c4 x5 (r ++ [.l ((cutR xs ((rowsN xs k).take j)).map .list)])) (by simp [ST, R]; exact .rfl) ⟨_, rfl⟩ (fun j d s hd hi => ?_) fun s hs => by
        rw [List.length_map, List.take_length] at hs
        exact hs
      obtain ⟨x5, rfl⟩ := hi
      rw [List.getElem?_map] at hd
      obtain ⟨w, hw, rfl⟩ := Option.map_eq_some_iff.mp hd
      let d5 : Sl := .d (.list w)
      refine ⟨ST (.d (R k)) d3 c4 d5 (r ++ [.l ((cutR xs ((rowsN xs k).take j)).map .list)]), rfl, ?_⟩
      have wl := (rowsN_mem (List.mem_of_getElem? hw)).1
      let SS : S := ST (.d (R k)) d3 c4 d5 (r ++ [.l ((cutR xs ((rowsN xs k).take j)).map .list)])
      have lc := lc_for (own := [6]) (ci := ciSeq (cVar 0)) (tg := tgN 6) (el := cOp2 opAdd (cVar 5) (cLst (cCons (cVar 6) cNil))) (s := SS) (s1 := SS) (xs := xs) (F := id) (fun x => .list (w ++ [x])) (by rw [List.map_id]; exact sqX _ _) (by omega) fun x hx' => by
        have ad : opAdd (.d (.list w)) (.d (.list [x])) = some (.new (.l (w ++ [x]))) := opAdd_l (by simp; omega)
        refine ⟨⟨[.d X, dm, .d (R k), d3, c4, d5, .d x], SS.m⟩, rfl, [.d X, dm, .d (R k), d3, c4, d5, .d x], ?_⟩
        simp [d5, ad]
      have et := ext_at (i := 4) (n := r.length) (v := SS.v) (m := SS.m) (xs := (cutR xs ((rowsN xs k).take j)).map .list) (ys := xs.map fun x => .list (w ++ [x])) (ca := cCons (cLc [6] (ciSeq (cVar 0)) (tgN 6) ctYes (cOp2 opAdd (cVar 5) (cLst (cCons (cVar 6) cNil)))) cNil) rfl (by simp [SS, ST]) (by
        have lc : _ = _ := lc
        show _ = Vm.R.ok _ SS
        generalize xs.map (fun x => PyData.list (w ++ [x])) = y at *
        simp [lc]) (by
        rw [List.length_map, cutR_len, List.length_map, List.length_take]
        have : min j (rowsN xs k).length * xs.length ≤ (rowsN xs k).length * xs.length := Nat.mul_le_mul_right _ (Nat.min_le_right _ _)
        omega)
      refine st_last et ⟨d5, ?_⟩
      have e : cutR xs ((rowsN xs k).take (j + 1)) = cutR xs ((rowsN xs k).take j) ++ xs.map fun x => w ++ [x] := by
        unfold cutR
        rw [List.take_add_one, hw, List.flatMap_append]
        simp
      rw [e, List.map_append, List.map_map]
      show (⟨SS.v, _⟩ : S) = _
      simp [SS, ST]
    obtain ⟨x5, rfl⟩ := hs
    have fz := cFz_l (i := 4) (n := r.length) (s := ST (.d (R k)) d3 c4 x5 (r ++ [.l ((rowsN xs (k + 1)).map .list)])) (ds := (rowsN xs (k + 1)).map .list) rfl (by simp [ST])
    refine st_last (s1 := ST (.d (R (k + 1))) d3 (.d (R (k + 1))) x5 (r ++ [.gone])) ?_ ⟨_, _, _, _, rfl⟩
    simp only [ST, R] at fz ⊢
    generalize (rowsN xs (k + 1)).map PyData.list = y at *
    simp [fz]
    exact .rfl
  obtain ⟨x3, x4, x5, r, rfl⟩ := hs
  exact w_ret (x := .d (R m)) (s1 := ST (.d (R m)) x3 x4 x5 r) (by simp [ST]; exact .rfl) (ok_d ⟨rfl, by simp⟩)
def natsD (d : List Nat) : D := .list (d.map fun b : Nat => PyData.int (b : Int))
theorem goal_ok {s : List Int} {d : List Nat} {last : Bool} (hd : d ≠ []) (hb : ∀ b, b ∈ d → b < s.length) (hl : d.length ≤ 1000) : f__law_goal [.d (.list (s.map PyData.int)), .d (natsD d), .d (.bool last)] [] = .ok (.d (.int (goalP last s d : Nat))) [] := by
  obtain ⟨m, hm, hle⟩ := min_ex (w := d.map fun b => s.getD b 0) (by simpa using hd)
  have e := minI_is hm hle
  obtain ⟨b0, hb0, eb0⟩ := List.mem_map.mp hm
  have sx : ∀ b, b ∈ d → opIx (.d (.list (s.map PyData.int))) (.d (.int (b : Nat))) = some (.d (.int (s.getD b 0))) := fun b h => ixI (hb b h)
  have sq : ∀ x0 v c, ciSeq (cVar 1) ⟨x0 :: .d (natsD d) :: v, c⟩ = .ok (d.map fun b : Nat => PyData.int (b : Int)) ⟨x0 :: .d (natsD d) :: v, c⟩ := fun x0 v c => by simp [natsD]
  obtain ⟨X, hX⟩ : ∃ X, PyData.list (s.map PyData.int) = X := ⟨_, rfl⟩
  obtain ⟨Y, hY⟩ : ∃ Y, natsD d = Y := ⟨_, rfl⟩
  rw [hX] at sx ⊢
  rw [hY]
  simp only [hY] at sq
  have om : opMin (.d (.list ((d.map fun b => s.getD b 0).map PyData.int))) = some (.d (.int m)) := by rw [opMin_l, e]; rfl
  let p : Nat → Bool := fun b => decide (s.getD b 0 = m)
  let V := fun (x3 x4 x5 : Sl) => (⟨[.d X, .d Y, .d (.bool last), x3, x4, x5], []⟩ : S)
  have lc := lc_some (own := [4]) (ci := ciSeq (cVar 1)) (tg := tgN 4) (tt := cB (cOp2 opEq (cOp2 opIx (cVar 0) (cVar 4)) (cOp1 opMin (cLc [5] (ciSeq (cVar 1)) (tgN 5) ctYes (cOp2 opIx (cVar 0) (cVar 5)))))) (el := cVar 4) (s := V .u .u .u) (s1 := V .u .u .u) (xs := d) (F := fun b : Nat => PyData.int (b : Int)) p (fun b : Nat => PyData.int (b : Int)) (by exact sq _ _ _) (by omega) fun b hbd => by
    have i1 := sx b hbd
    have lc2 := lc_for (own := [5]) (ci := ciSeq (cVar 1)) (tg := tgN 5) (el := cOp2 opIx (cVar 0) (cVar 5)) (s := V .u (.d (.int (b : Nat))) .u) (s1 := V .u (.d (.int (b : Nat))) .u) (xs := d) (F := fun b : Nat => PyData.int (b : Int)) (fun b => .int (s.getD b 0)) (by exact sq _ _ _) (by omega) fun c hc => by
      have i2 := sx c hc
      refine ⟨V .u (.d (.int (b : Nat))) (.d (.int (c : Nat))), rfl, [.d X, .d Y, .d (.bool last), .u, .d (.int (b : Nat)), .d (.int (c : Nat))], ?_⟩
      generalize s.getD c 0 = y at *
      simp [V, i2]
    have e2 : d.map (fun b => PyData.int (s.getD b 0)) = (d.map fun b => s.getD b 0).map PyData.int := by rw [List.map_map]; rfl
    rw [e2] at lc2
    refine ⟨V .u (.d (.int (b : Nat))) .u, rfl, [.d X, .d Y, .d (.bool last), .u, .d (.int (b : Nat)), .u], ?_, fun _ => ⟨[.d X, .d Y, .d (.bool last), .u, .d (.int (b : Nat)), .u], by simp [V]⟩⟩
    show _ = Vm.R.ok (decide (s.getD b 0 = m)) _
    generalize (d.map fun b => s.getD b 0).map PyData.int = z at *
    generalize s.getD b 0 = y at *
    simp only [V] at lc2 ⊢
    simp [i1, lc2, om]
  have ne : d.filter p ≠ [] := fun z => by
    have : b0 ∈ d.filter p := List.mem_filter.mpr ⟨hb0, decide_eq_true eb0⟩
    rw [z] at this
    cases this
  have gp : goalP last s d = if last then (d.filter p).getLastD 0 else (d.filter p).headD 0 := by
    unfold goalP
    rw [e]
    rfl
  rw [gp]
  obtain ⟨F, hF⟩ : ∃ F, d.filter p = F := ⟨_, rfl⟩
  rw [hF] at lc ne ⊢
  have h0 : opIx (.d (.list (F.map fun b : Nat => PyData.int (b : Int)))) (.d (.int 0)) = some (.d (.int ((F.headD 0 : Nat) : Int))) := by
    obtain ⟨x, l, rfl⟩ := List.exists_cons_of_ne_nil ne
    exact opIx_l (atI_nat (Int.le_refl 0) rfl)
  have h9 : opIx (.d (.list (F.map fun b : Nat => PyData.int (b : Int)))) (.d (.int (-1))) = some (.d (.int ((F.getLastD 0 : Nat) : Int))) := by
    refine opIx_l (atI_last ?_)
    rw [List.getLast?_map, List.getLastD_eq_getLast?, List.getLast?_eq_some_getLast ne]
    rfl
  apply Ok.eq
  unfold f__law_goal
  refine run_ok ?_
  unfold c__law_goal
  obtain ⟨FD, hFD⟩ : ∃ z, F.map (fun b : Nat => PyData.int (b : Int)) = z := ⟨_, rfl⟩
  rw [hFD] at lc h0 h9
  let d3 : Sl := .d (.list FD)
  refine st (s1 := V d3 .u .u) (by
    simp only [V] at lc ⊢
    simp [lc, d3]
    exact .rfl) ?_
  have two : ∀ x y : Int, opIx (.d (.list [.int x, .int y])) (.d (.int (if last = true then 1 else 0))) = some (.d (.int (if last then y else x))) := fun x y => by cases last <;> rfl
  have io : opInt (.d (.bool last)) = some (.d (.int (if last = true then 1 else 0))) := by cases last <;> rfl
  have tw := two ((F.headD 0 : Nat) : Int) ((F.getLastD 0 : Nat) : Int)
  have e4 : (if last then ((F.getLastD 0 : Nat) : Int) else ((F.headD 0 : Nat) : Int)) = ((if last then F.getLastD 0 else F.headD 0 : Nat) : Int) := by cases last <;> rfl
  rw [e4] at tw
  generalize ((if last then F.getLastD 0 else F.headD 0 : Nat) : Int) = g at *
  generalize ((F.getLastD 0 : Nat) : Int) = g1 at *
  generalize ((F.headD 0 : Nat) : Int) = g2 at *
  refine w_ret (x := .d (.int g)) (s1 := V d3 .u .u) (by
    generalize (if last = true then (1 : Int) else 0) = li at *
    simp [V, d3, h0, h9, io, tw]
    exact .rfl) (ok_0 ⟨rfl, rfl⟩)
theorem few_ok {n m : Nat} (n1 : 1 ≤ n) (hn : n ≤ 1000000) (hm : m ≤ 1000) : ∃ b : Nat, f__law_few [.d (.int (n : Nat)), .d (.int (m : Nat))] [] = .ok (.d (.int (b : Nat))) [] ∧ b ≤ m ∧ n ^ b ≤ 300 := by
  suffices h : Ok (f__law_few [.d (.int (n : Nat)), .d (.int (m : Nat))] []) fun a c => ∃ b : Nat, a = .d (.int (b : Nat)) ∧ c = [] ∧ b ≤ m ∧ n ^ b ≤ 300 by
    obtain ⟨_, _, e, b, rfl, rfl, h⟩ := h
    exact ⟨b, e, h⟩
  unfold f__law_few
  refine run_ok ?_
  unfold c__law_few
  let dn : Sl := .d (.int (n : Nat))
  let dm : Sl := .d (.int (m : Nat))
  let ST := fun (x2 x3 : Sl) => (⟨[dn, dm, x2, x3], []⟩ : S)
  refine st (s1 := ST (.d (.int ((n ^ 0 : Nat) : Int))) .u) (by rw [Nat.pow_zero]; simp [ST]; exact .rfl) ?_
  have rg := ciR1_n (c := cVar 1) (s := ST (.d (.int ((n ^ 0 : Nat) : Int))) .u) (s1 := ST (.d (.int ((n ^ 0 : Nat) : Int))) .u) (n := m) (by simp [ST, dm]) (by omega)
  refine w_cut (fun s => ∃ x3, s = ST (.d (.int ((n ^ m : Nat) : Int))) x3 ∧ n ^ m ≤ 300) ?_ fun s hs => ?_
  · refine w_for (fun k s => ∃ x3, s = ST (.d (.int ((n ^ k : Nat) : Int))) x3 ∧ n ^ k ≤ 300) (by exact rg) ⟨_, rfl, by rw [Nat.pow_zero]; decide⟩ (fun k d s hd hi => ?_) fun s hs => by
      rw [List.length_map, List.length_range] at hs
      exact hs
    obtain ⟨x3, rfl, le⟩ := hi
    obtain ⟨hk, rfl⟩ := rangeN_get hd
    let d3 : Sl := .d (.int (k : Int))
    refine ⟨ST (.d (.int ((n ^ k : Nat) : Int))) d3, rfl, ?_⟩
    have mu : opMulV (.d (.int ((n ^ k : Nat) : Int))) (.d (.int (n : Nat))) = some (.d (.int ((n ^ (k + 1) : Nat) : Int))) := by
      have := opMul_b (i := ((n ^ k : Nat) : Int)) (j := (n : Int)) (by omega) (by omega) (by omega) (by omega)
      rw [this, Nat.pow_succ]
      congr 3
    generalize ((n ^ k : Nat) : Int) = y0 at *
    obtain ⟨y, hy⟩ : ∃ y : Nat, n ^ (k + 1) = y := ⟨_, rfl⟩
    rw [hy] at mu ⊢
    refine st (s1 := ST (.d (.int (y : Nat))) d3) (by simp [ST, dn, mu]; exact .rfl) ?_
    by_cases q : 300 < y
    · refine w_ifT (s1 := ST (.d (.int (y : Nat))) d3) (by
        have : (300 : Int) < (y : Int) := by omega
        simp [ST, this, q]
        exact .rfl) (w_ret (x := .d (.int (k : Int))) (s1 := ST (.d (.int (y : Nat))) d3) ?_ (ok_0 ⟨k, rfl, rfl, by omega, le⟩))
      simp [ST, d3]
      exact .rfl
    · exact w_ifF (s1 := ST (.d (.int (y : Nat))) d3) (by
        have : ¬ (300 : Int) < (y : Int) := by omega
        simp [ST, this, q]
        exact .rfl) (w_nx ⟨_, rfl, by omega⟩)
  · obtain ⟨x3, rfl, le⟩ := hs
    exact w_ret (x := .d (.int (m : Nat))) (s1 := ST (.d (.int ((n ^ m : Nat) : Int))) x3) (by simp [ST, dm]; exact .rfl) (ok_0 ⟨m, rfl, rfl, Nat.le_refl _, le⟩)
end Vm
namespace Vm
open PySem L2 PySem.Spec PyProof.Rows
theorem goal_lt {n : Nat} {Ds : List (List Nat)} {us : List Int} (D : DrF n Ds us) {last : Bool} {s : List Int} {d : List Nat} (hd : d ∈ Ds) : goalP last s d < n := (D.mem d hd).2 _ (goal_spec (D.mem d hd).1).1
def foldS (last : Bool) (s0 : List Int) (row : List (List Nat)) : List Int := row.foldl (stepP last) s0
theorem foldS_len {last : Bool} : ∀ (row : List (List Nat)) (s : List Int), (foldS last s row).length = s.length
  | [], s => rfl
  | d :: row, s => by
    show (foldS last (stepP last s d) row).length = _
    rw [foldS_len row]
    unfold stepP
    rw [List.length_set]
theorem counts_ok {n m : Nat} {Ds : List (List Nat)} {us s0 : List Int} {last : Bool} (D : DrF n Ds us) (hs : s0.length = n) (dl : ∀ d, d ∈ Ds → d.length ≤ 1000) (hx : Ds.length ≤ 2000) (hm : m ≤ 1000) (hB : ∀ k, k ≤ m → Ds.length ^ k ≤ 2000) :
    f__law_counts [.d (.list (s0.map PyData.int)), .d (.list (Ds.map natsD)), .d (.int (m : Nat)), .d (.bool last)] [] = .ok (.new (.t (tkv (fiD (accL ((rowsN Ds m).map fun row => (sortD (foldS last s0 row), 1))))))) [] := by
  have er := rows_ok (xs := Ds.map natsD) (m := m) (by rw [List.length_map]; exact hx) hm (by rw [List.length_map]; exact hB)
  rw [rowsN_map natsD, List.map_map] at er
  have er : _ = RF.ok (.d (.list ((rowsN Ds m).map fun row => PyData.list (row.map natsD)))) [] := er
  apply Ok.eq
  unfold f__law_counts
  refine run_ok ?_
  unfold c__law_counts
  have rl : (rowsN Ds m).length ≤ 2000 := by rw [rowsN_len]; exact hB m (Nat.le_refl _)
  have oS : opList (.d (.list (s0.map PyData.int))) = some (.new (.l (s0.map PyData.int))) := by
    generalize s0.map PyData.int = z
    simp
  obtain ⟨X, hX⟩ : ∃ X, PyData.list (s0.map PyData.int) = X := ⟨_, rfl⟩
  obtain ⟨Y, hY⟩ : ∃ Y, PyData.list (Ds.map natsD) = Y := ⟨_, rfl⟩
  rw [hY] at er
  rw [hX] at oS
  rw [hX, hY]
  let dm : Sl := .d (.int (m : Nat))
  let dl' : Sl := .d (.bool last)
  let ev : List (List Nat) → List Int × Int := fun row => (sortD (foldS last s0 row), 1)
  let ST := fun (x5 x6 x7 x8 x9 : Sl) (c : Cell) (r : List Cell) => (⟨[.d X, .d Y, dm, dl', .c 0, x5, x6, x7, x8, x9], c :: r⟩ : S)
  let CT := fun (A : List (List Int × Int)) => Cell.t (tkv (fiD A))
  refine st (s1 := ST .u .u .u .u .u (CT (accL [])) []) (by simp [ST, CT]; exact .rfl) ?_
  refine w_cut (fun s => ∃ x5 x6 x7 x8 x9 r, s = ST x5 x6 x7 x8 x9 (CT (accL ((rowsN Ds m).map ev))) r) ?_ fun s hs' => ?_
  · refine w_for (ds := (rowsN Ds m).map fun row => PyData.list (row.map natsD)) (s1 := ST .u .u .u .u .u (CT (accL [])) []) (fun i s => ∃ x5 x6 x7 x8 x9 r, s = ST x5 x6 x7 x8 x9 (CT (accL (((rowsN Ds m).take i).map ev))) r) (by
      generalize (rowsN Ds m).map (fun row => PyData.list (row.map natsD)) = z at *
      generalize f__law_rows = fr at *
      simp [ST, dm, er]
      exact .rfl) ⟨_, _, _, _, _, [], rfl⟩ (fun i d s hd hi => ?_) fun s hi => by
      rw [List.length_map, List.take_length] at hi
      exact hi
    obtain ⟨x5, x6, x7, x8, x9, r, rfl⟩ := hi
    rw [List.getElem?_map] at hd
    obtain ⟨row, hrow, rfl⟩ := Option.map_eq_some_iff.mp hd
    have rm := rowsN_mem (List.mem_of_getElem? hrow)
    have tk : ((rowsN Ds m).take (i + 1)).map ev = ((rowsN Ds m).take i).map ev ++ [ev row] := by
      rw [List.take_add_one, hrow, List.map_append]
      rfl
    have al := accL_len (((rowsN Ds m).take i).map ev)
    rw [List.length_map, List.length_take] at al
    rw [tk, foldl_accL]
    generalize accL (((rowsN Ds m).take i).map ev) = A at *
    obtain ⟨RD, hRD⟩ : ∃ z, row.map natsD = z := ⟨_, rfl⟩
    rw [hRD]
    let d5 : Sl := .d (.list RD)
    refine ⟨ST d5 x6 x7 x8 x9 (CT A) r, rfl, ?_⟩
    let c6 : Sl := .c (r.length + 1)
    let IL := fun (s : List Int) => Cell.l (s.map PyData.int)
    refine st (s1 := ST d5 c6 x7 x8 x9 (CT A) (r ++ [IL s0])) (by
      simp only [ST, IL]
      generalize s0.map PyData.int = z at *
      simp [oS, c6]
      exact .rfl) ?_
    refine w_cut (fun s => ∃ x7 x8, s = ST d5 c6 x7 x8 x9 (CT A) (r ++ [IL (foldS last s0 row)])) ?_ fun s hs2 => ?_
    · refine w_for (ds := RD) (s1 := ST d5 c6 x7 x8 x9 (CT A) (r ++ [IL s0])) (fun j s => ∃ x7 x8, s = ST d5 c6 x7 x8 x9 (CT A) (r ++ [IL (foldS last s0 (row.take j))])) (by
        simp [ST, d5]
        exact .rfl) ⟨_, _, rfl⟩ (fun j d s hd hi => ?_) fun s hs2 => by
        rw [← hRD, List.length_map, List.take_length] at hs2
        exact hs2
      obtain ⟨x7, x8, rfl⟩ := hi
      rw [← hRD, List.getElem?_map] at hd
      obtain ⟨dr, hdr, rfl⟩ := Option.map_eq_some_iff.mp hd
      have drm := rm.2 dr (List.mem_of_getElem? hdr)
      have fs : foldS last s0 (row.take (j + 1)) = stepP last (foldS last s0 (row.take j)) dr := by
        unfold foldS
        rw [List.take_add_one, hdr, List.foldl_append]
        rfl
      have fl := foldS_len (last := last) (row.take j) s0
      rw [fs]
      generalize foldS last s0 (row.take j) = S0 at *
      have go := goal_ok (last := last) (s := S0) (D.mem dr drm).1 (fun b hb => by rw [fl, hs]; exact (D.mem dr drm).2 b hb) (dl dr drm)
      have gl := goal_lt D (last := last) (s := S0) drm
      obtain ⟨g, hg⟩ : ∃ g, goalP last S0 dr = g := ⟨_, rfl⟩
      have sp : stepP last S0 dr = S0.set g (S0.getD g 0 + 1) := by unfold stepP; rw [hg]
      rw [hg] at go gl
      rw [sp]
      let d7 : Sl := .d (natsD dr)
      let d8 : Sl := .d (.int (g : Nat))
      refine ⟨ST d5 c6 d7 x8 x9 (CT A) (r ++ [IL S0]), rfl, ?_⟩
      let SS : S := ST d5 c6 d7 x8 x9 (CT A) (r ++ [IL S0])
      have gm : SS.m[r.length + 1]? = some (IL S0) := by simp [SS, ST]
      have ld := lLend_s (i := 6) (n := r.length + 1) (n0 := r.length + 1) (cl := lCons (cVar 7) (lCons (cVar 3) lNil)) (s := SS) (s2 := SS) (ds := S0.map PyData.int) (as := [d7, dl']) rfl (by simp [SS, ST, d7, dl']) rfl gm
      have cv := cCallV_s (f := f__law_goal) ld rfl go rfl
      refine st (s1 := ST d5 c6 d7 d8 x9 (CT A) (r ++ [IL S0])) (by
        simp only [SS, ST, IL] at cv ⊢
        generalize S0.map PyData.int = z at *
        simp [cv, d8]
        exact .rfl) ?_
      have ix := ixI (xs := S0) (i := g) (by rw [fl, hs]; exact gl)
      have pl := putLR_s (n := r.length + 1) (k := (g : Int)) (v := .int (S0.getD g 0 + 1)) (s3 := ST d5 c6 d7 d8 x9 (CT A) (r ++ [IL S0])) (xs := S0.map PyData.int) (by simp [ST, IL]) (by omega) (by rw [List.length_map]; omega)
      have es : (S0.map PyData.int).set (g : Int).toNat (.int (S0.getD g 0 + 1)) = (S0.set g (S0.getD g 0 + 1)).map PyData.int := by rw [Int.toNat_natCast, List.map_set]
      rw [es] at pl
      refine st_last (s1 := ST d5 c6 d7 d8 x9 (CT A) (r ++ [IL (S0.set g (S0.getD g 0 + 1))])) ?_ ⟨_, _, rfl⟩
      simp only [ST, IL] at pl ⊢
      generalize (S0.set g (S0.getD g 0 + 1)).map PyData.int = z2 at *
      generalize S0.getD g 0 = y at *
      generalize S0.map PyData.int = z at *
      simp [c6, d8, ix] at pl ⊢
      simp [pl]
      exact .rfl
    obtain ⟨x7, x8, rfl⟩ := hs2
    have so := opSortedR_s (ns := foldS last s0 row)
    let d9 : Sl := .d (ldD (sortD (foldS last s0 row)))
    refine st (s1 := ST d5 c6 x7 x8 d9 (CT A) (r ++ [IL (foldS last s0 row)])) (by
      simp only [ST, IL, d9, ldD]
      generalize (sortD (foldS last s0 row)).map PyData.int = z2 at *
      generalize (foldS last s0 row).map PyData.int = z at *
      simp [c6, so]
      exact .rfl) ?_
    have pa := put_acc (i := 4) (t := 9) (q := 0) (v := (ST d5 c6 x7 x8 d9 (CT A) (r ++ [IL (foldS last s0 row)])).v) (m := (ST d5 c6 x7 x8 d9 (CT A) (r ++ [IL (foldS last s0 row)])).m) (F := A) (k := sortD (foldS last s0 row)) (c := 1) (ce := cC (.int 1)) rfl rfl rfl (by omega) (by simp)
    exact st_last pa ⟨d5, c6, x7, x8, d9, r ++ [IL (foldS last s0 row)], rfl⟩
  · obtain ⟨x5, x6, x7, x8, x9, r, rfl⟩ := hs'
    exact w_ret (x := .ref 0) (by simp [ST]; exact .rfl) (ok_cell (c := CT (accL ((rowsN Ds m).map ev))) (Nat.zero_le 0) rfl nofun ⟨rfl, rfl⟩)
theorem put_accK {i q : Nat} {ke : CE} {v : List Sl} {m : List Cell} {F : List (List Int × Int)} {k : List Int} {c : Int} {ce : CE} (hi : v[i]? = some (.c q)) (ht : ke ⟨v, m⟩ = .ok (.d (ldD k)) ⟨v, m⟩) (hq : m[q]? = some (.t (tkv (fiD F)))) (hF : F.length < 16000000) (hc : ce ⟨v, m⟩ = .ok (.d (.int c)) ⟨v, m⟩) :
    cPut (cVar i) ke (cOp2 opAdd (cGet (cVar i) ke (cC (.int 0))) ce) ⟨v, m⟩ = .nx ⟨v, m.set q (.t (tkv (fiD (accW F (k, c)))))⟩ := by
  have g := kGet4_w (n := q) (F := F) (k := k) (s3 := ⟨v, m⟩) hq
  have p := putR_s (n := q) (k := ldD k) (v := .int (wt F k + c)) (s3 := ⟨v, m⟩) hq
  rw [putIn_w hF] at p
  have e : aput F k (wt F k + c) = accW F (k, c) := rfl
  rw [e] at p
  simp [hi, ht, hq, g, hc, p]
def prodW (us : List Int) (row : List Nat) : Int := (row.map fun r => us.getD r 0).foldl (· * ·) 1
def evR (us k0 : List Int) (row : List Nat) : List (List Int × Int) := if 0 < prodW us row then [(row.foldl inc k0, prodW us row)] else []
theorem ranks_ok {n m : Nat} {us k0 : List Int} (hu : us.length = n) (hk : k0.length = n) (nn : ∀ u, u ∈ us → 0 ≤ u ∧ u ≤ 1000) (hm : m ≤ 10) (hn : n ≤ 1000) (hB : ∀ k, k ≤ m → n ^ k ≤ 2000) :
    f__law_by_ranks [.d (ldD k0), .d (.list (us.map PyData.int)), .d (.int (m : Nat))] [] = .ok (.new (.t (tkv (fiD (accL ((rowsN (List.range n) m).flatMap (evR us k0))))))) [] := by
  have er := rows_ok (xs := (List.range n).map fun i : Nat => PyData.int (i : Int)) (m := m) (by rw [List.length_map, List.length_range]; omega) (by omega) (by rw [List.length_map, List.length_range]; exact hB)
  rw [rowsN_map (fun i : Nat => PyData.int (i : Int)), List.map_map] at er
  have er : _ = RF.ok (.d (.list ((rowsN (List.range n) m).map natsD))) [] := er
  have lr := opListRg_n (n := n) (by omega)
  have lr : opListRg (.d (.int (n : Nat))) = some (.new (.l ((List.range n).map fun i : Nat => PyData.int (i : Int)))) := by
    rw [lr, List.map_map]
    rfl
  have ol : opLen (.d (.list (us.map PyData.int))) = some (.d (.int (n : Nat))) := by rw [opLen_l, List.length_map, hu]
  have ux : ∀ r, r < n → opIx (.d (.list (us.map PyData.int))) (.d (.int (r : Nat))) = some (.d (.int (us.getD r 0))) := fun r hr => ixI (by omega)
  have oK : opList (.d (ldD k0)) = some (.new (.l (k0.map PyData.int))) := by
    unfold ldD
    generalize k0.map PyData.int = z
    simp
  have rl : (rowsN (List.range n) m).length ≤ 2000 := by rw [rowsN_len, List.length_range]; exact hB m (Nat.le_refl _)
  apply Ok.eq
  unfold f__law_by_ranks
  refine run_ok ?_
  unfold c__law_by_ranks
  obtain ⟨X, hX⟩ : ∃ X, ldD k0 = X := ⟨_, rfl⟩
  obtain ⟨Y, hY⟩ : ∃ Y, PyData.list (us.map PyData.int) = Y := ⟨_, rfl⟩
  rw [hY] at ol ux
  rw [hX] at oK
  rw [hX, hY]
  let dm : Sl := .d (.int (m : Nat))
  let IL := fun (s : List Int) => Cell.l (s.map PyData.int)
  let CT := fun (A : List (List Int × Int)) => Cell.t (tkv (fiD A))
  let ST := fun (x4 x5 x6 x7 : Sl) (c : Cell) (r : List Cell) => (⟨[.d X, .d Y, dm, .c 0, x4, x5, x6, x7], c :: r⟩ : S)
  refine st (s1 := ST .u .u .u .u (CT (accL [])) []) (by simp [ST, CT]; exact .rfl) ?_
  refine w_cut (fun s => ∃ x4 x5 x6 x7 r, s = ST x4 x5 x6 x7 (CT (accL ((rowsN (List.range n) m).flatMap (evR us k0)))) r) ?_ fun s hs' => ?_
  · refine w_for (ds := (rowsN (List.range n) m).map natsD) (s1 := ST .u .u .u .u (CT (accL [])) []) (fun i s => ∃ x4 x5 x6 x7 r, s = ST x4 x5 x6 x7 (CT (accL (((rowsN (List.range n) m).take i).flatMap (evR us k0)))) r) (by
      generalize (rowsN (List.range n) m).map natsD = z at *
      generalize (List.range n).map (fun i : Nat => PyData.int (i : Int)) = z2 at *
      generalize f__law_rows = fr at *
      simp [ST, dm, ol, lr, er]
      exact .rfl) ⟨_, _, _, _, [], rfl⟩ (fun i d s hd hi => ?_) fun s hi => by
      rw [List.length_map, List.take_length] at hi
      exact hi
    obtain ⟨x4, x5, x6, x7, r, rfl⟩ := hi
    rw [List.getElem?_map] at hd
    obtain ⟨row, hrow, rfl⟩ := Option.map_eq_some_iff.mp hd
    have rm := rowsN_mem (List.mem_of_getElem? hrow)
    have tk : ((rowsN (List.range n) m).take (i + 1)).flatMap (evR us k0) = ((rowsN (List.range n) m).take i).flatMap (evR us k0) ++ evR us k0 row := by
      rw [List.take_add_one, hrow, List.flatMap_append]
      simp
    have al := accL_len (((rowsN (List.range n) m).take i).flatMap (evR us k0))
    have al2 : (((rowsN (List.range n) m).take i).flatMap (evR us k0)).length ≤ ((rowsN (List.range n) m).take i).length * 1 := flat_len' fun x _ => by
      unfold evR
      split
      · exact Nat.le_refl _
      · exact Nat.zero_le _
    rw [List.length_take] at al2
    rw [tk]
    generalize ((rowsN (List.range n) m).take i).flatMap (evR us k0) = E at *
    let d4 : Sl := .d (natsD row)
    refine ⟨ST d4 x5 x6 x7 (CT (accL E)) r, rfl, ?_⟩
    refine st (s1 := ST d4 (.c (r.length + 1)) x6 x7 (CT (accL E)) (r ++ [IL k0])) (by
      simp only [ST, IL]
      generalize k0.map PyData.int = z at *
      simp [oK]
      exact .rfl) ?_
    refine st (s1 := ST d4 (.c (r.length + 1)) (.d (.int (prodW us []))) x7 (CT (accL E)) (r ++ [IL k0])) (by simp [ST, prodW]; exact .rfl) ?_
    -- the powers' bound
    have pb : ∀ l : List Nat, (∀ x, x ∈ l → x < n) → 0 ≤ prodW us l ∧ prodW us l ≤ 1000 ^ l.length := fun l => by
      have go : ∀ (l : List Nat) (a : Int) (j : Nat), (∀ x, x ∈ l → x < n) → 0 ≤ a → a ≤ 1000 ^ j → 0 ≤ (l.map fun r => us.getD r 0).foldl (· * ·) a ∧ (l.map fun r => us.getD r 0).foldl (· * ·) a ≤ 1000 ^ (j + l.length) := fun l => by
        induction l with
        | nil => exact fun a j _ h1 h2 => ⟨h1, h2⟩
        | cons x l ih =>
          intro a j hl h1 h2
          have ub := nn _ (getD_memS (xs := us) (i := x) (by rw [hu]; exact hl x (List.mem_cons_self ..)))
          have := ih (a * us.getD x 0) (j + 1) (fun y hy => hl y (List.mem_cons_of_mem _ hy)) (Int.mul_nonneg h1 ub.1) (by
            rw [Int.pow_succ]
            exact Int.mul_le_mul h2 ub.2 ub.1 (Int.le_of_lt (Int.pow_pos (by decide))))
          rw [show j + 1 + l.length = j + (x :: l).length by simp; omega] at this
          exact this
      intro hl
      have := go l 1 0 hl (by decide) (by decide)
      rw [Nat.zero_add] at this
      exact this
    refine w_cut (fun s => ∃ x7 q r', s = ST d4 (.c (q + 1)) (.d (.int (prodW us row))) x7 (CT (accL E)) r' ∧ r'[q]? = some (IL (row.foldl inc k0))) ?_ fun s hs2 => ?_
    · refine w_for (ds := row.map fun b : Nat => PyData.int (b : Int)) (s1 := ST d4 (.c (r.length + 1)) (.d (.int (prodW us []))) x7 (CT (accL E)) (r ++ [IL k0])) (fun j s => ∃ x7 q r', s = ST d4 (.c (q + 1)) (.d (.int (prodW us (row.take j)))) x7 (CT (accL E)) r' ∧ r'[q]? = some (IL ((row.take j).foldl inc k0))) (by simp [ST, d4, natsD]; exact .rfl) ⟨_, r.length, _, rfl, by simp⟩ (fun j d s hd hi => ?_) fun s hs2 => by
        rw [List.length_map, List.take_length] at hs2
        exact hs2
      obtain ⟨x7, q, r', rfl, hq⟩ := hi
      rw [List.getElem?_map] at hd
      obtain ⟨b, hb, rfl⟩ := Option.map_eq_some_iff.mp hd
      have bn : b < n := List.mem_range.mp (rm.2 b (List.mem_of_getElem? hb))
      have fs : (row.take (j + 1)).foldl inc k0 = inc ((row.take j).foldl inc k0) b := by
        rw [List.take_add_one, hb, List.foldl_append]
        rfl
      have ps : prodW us (row.take (j + 1)) = prodW us (row.take j) * us.getD b 0 := by
        unfold prodW
        rw [List.take_add_one, hb, List.map_append, List.foldl_append]
        rfl
      have kl : ∀ (l : List Nat) (k : List Int), (l.foldl inc k).length = k.length := fun l => by
        induction l with
        | nil => exact fun k => rfl
        | cons x l ih =>
          intro k
          rw [List.foldl_cons, ih]
          unfold inc
          rw [sortD_len, List.length_set]
      have fl := kl (row.take j) k0
      have pj := pb (row.take j) fun x hx => List.mem_range.mp (rm.2 x (List.mem_of_mem_take hx))
      have tl : (row.take j).length ≤ 10 := by rw [List.length_take, rm.1]; omega
      have p30 : (1000 : Int) ^ (row.take j).length ≤ 1000 ^ 10 := by
        have := Nat.pow_le_pow_right (show 0 < 1000 by decide) tl
        exact_mod_cast this
      have e30 : (1000 : Int) ^ 10 = 1000000000000000000000000000000 := by decide
      rw [fs, ps]
      generalize (row.take j).foldl inc k0 = S0 at *
      generalize prodW us (row.take j) = pw at *
      have ub := nn _ (getD_memS (xs := us) (i := b) (by omega))
      have mu : opMulV (.d (.int pw)) (.d (.int (us.getD b 0))) = some (.d (.int (pw * us.getD b 0))) := opMul_b (by omega) (by omega) (by omega) (by omega)
      have uxb := ux b bn
      have ix := ixI (xs := S0) (i := b) (by omega)
      let d7 : Sl := .d (.int (b : Int))
      refine ⟨ST d4 (.c (q + 1)) (.d (.int pw)) d7 (CT (accL E)) r', rfl, ?_⟩
      have ql : q < r'.length := (List.getElem?_eq_some_iff.mp hq).1
      have hq' : (CT (accL E) :: r')[q + 1]? = some (.l (S0.map PyData.int)) := by
        rw [List.getElem?_cons_succ]
        exact hq
      have pl := putLR_s (n := q + 1) (k := (b : Int)) (v := .int (S0.getD b 0 + 1)) (s3 := ST d4 (.c (q + 1)) (.d (.int pw)) d7 (CT (accL E)) r') (xs := S0.map PyData.int) hq' (by omega) (by rw [List.length_map]; omega)
      have es : (S0.map PyData.int).set (b : Int).toNat (.int (S0.getD b 0 + 1)) = (S0.set b (S0.getD b 0 + 1)).map PyData.int := by rw [Int.toNat_natCast, List.map_set]
      rw [es] at pl
      obtain ⟨S1, hS1⟩ : ∃ S1, S0.set b (S0.getD b 0 + 1) = S1 := ⟨_, rfl⟩
      have ei : inc S0 b = sortD S1 := by unfold inc; rw [hS1]
      rw [hS1] at pl
      rw [ei]
      refine st (s1 := ST d4 (.c (q + 1)) (.d (.int pw)) d7 (CT (accL E)) (r'.set q (IL S1))) (by
        simp only [ST, IL] at pl hq' ⊢
        generalize S1.map PyData.int = z2 at *
        generalize S0.getD b 0 = y at *
        generalize S0.map PyData.int = z at *
        simp only [List.set_cons_succ] at pl
        simp [d7, ix, hq'] at pl ⊢
        simp [hq, ix, pl]
        exact .rfl) ?_
      have so := opSortedR_s (ns := S1)
      have hq2 : (r'.set q (IL S1))[q]? = some (IL S1) := by rw [List.getElem?_set_self ql]
      obtain ⟨r2, hr2⟩ : ∃ r2, r'.set q (IL S1) = r2 := ⟨_, rfl⟩
      rw [hr2] at hq2 ⊢
      refine st (s1 := ST d4 (.c (r2.length + 1)) (.d (.int pw)) d7 (CT (accL E)) (r2 ++ [IL (sortD S1)])) (by
        simp only [ST, IL] at hq2 ⊢
        generalize (sortD S1).map PyData.int = z2 at *
        generalize S1.map PyData.int = z at *
        simp [hq2, so]
        exact .rfl) ?_
      refine st_last (s1 := ST d4 (.c (r2.length + 1)) (.d (.int (pw * us.getD b 0))) d7 (CT (accL E)) (r2 ++ [IL (sortD S1)])) ?_ ⟨_, r2.length, _, rfl, by simp⟩
      generalize us.getD b 0 = y at *
      simp [ST, d7, uxb, mu]
      exact .rfl
    obtain ⟨x7, q, r', rfl, hq⟩ := hs2
    have hq' : (CT (accL E) :: r')[q + 1]? = some (.l ((row.foldl inc k0).map PyData.int)) := by
      rw [List.getElem?_cons_succ]
      exact hq
    by_cases z : 0 < prodW us row
    · have ev : evR us k0 row = [(row.foldl inc k0, prodW us row)] := if_pos z
      rw [ev, foldl_accL]
      obtain ⟨pw, hpw⟩ : ∃ pw, prodW us row = pw := ⟨_, rfl⟩
      rw [hpw] at z ⊢
      refine w_ifT (s1 := ST d4 (.c (q + 1)) (.d (.int pw)) x7 (CT (accL E)) r') (by simp [ST, z]; exact .rfl) ?_
      have pa := put_accK (i := 3) (q := 0) (ke := cOp1 opTuple (cVar 5)) (v := (ST d4 (.c (q + 1)) (.d (.int pw)) x7 (CT (accL E)) r').v) (m := (ST d4 (.c (q + 1)) (.d (.int pw)) x7 (CT (accL E)) r').m) (F := accL E) (k := row.foldl inc k0) (c := pw) (ce := cVar 6) rfl (by
        unfold ldD
        show _ = Vm.R.ok _ (ST d4 (.c (q + 1)) (.d (.int pw)) x7 (CT (accL E)) r')
        generalize (row.foldl inc k0).map PyData.int = z at *
        simp [ST, hq']
        ) rfl (by omega) (by simp [ST])
      exact st_last pa ⟨d4, .c (q + 1), .d (.int pw), x7, r', rfl⟩
    · have ev : evR us k0 row = [] := if_neg z
      rw [ev, List.append_nil]
      exact w_ifF (s1 := ST d4 (.c (q + 1)) (.d (.int (prodW us row))) x7 (CT (accL E)) r') (by
        generalize prodW us row = pw at *
        simp [ST, z]
        exact .rfl) (w_nx ⟨_, _, _, _, _, rfl⟩)
  · obtain ⟨x4, x5, x6, x7, r, rfl⟩ := hs'
    exact w_ret (x := .ref 0) (by simp [ST]; exact .rfl) (ok_cell (c := CT (accL ((rowsN (List.range n) m).flatMap (evR us k0)))) (Nat.zero_le 0) rfl nofun ⟨rfl, rfl⟩)
end Vm
namespace Vm
open PySem L2 PySem.Spec PyProof.Rows
/-! ### the rules by counting -/
def usD (n : Nat) (Ds : List (List Nat)) : List Int := (List.range n).map fun r => ((Ds.countP fun d => decide (maxN d = r) : Nat) : Int)
def okRl (rl : List D) (us : List Int) : Bool := decide (rl.length = us.length) && ((decide (1 ≤ us.sum) && us.all fun u => decide (0 ≤ u)) && (List.range us.length).all fun j => match rl[j]? with
  | some (.tuple [.int p, .int q]) => decide (1 ≤ q ∧ Int.gcd p q = 1 ∧ p.natAbs < 2 ^ 45 ∧ q.natAbs < 2 ^ 45 ∧ p * us.sum = us.getD j 0 * q)
  | _ => false)
theorem okRl_ok {rl : List D} {us : List Int} (h : okRl rl us = true) : RlW 45 us rl := by
  unfold okRl at h
  rw [Bool.and_eq_true, Bool.and_eq_true, Bool.and_eq_true] at h
  obtain ⟨h1, ⟨h2, h3⟩, h4⟩ := h
  refine ⟨of_decide_eq_true h1, fun w hw => of_decide_eq_true (List.all_eq_true.mp h3 w hw), of_decide_eq_true h2, fun j hj => ?_⟩
  have := List.all_eq_true.mp h4 j (List.mem_range.mpr hj)
  split at this
  · rename_i p q e
    obtain ⟨a1, a2, a3, a4, a5⟩ := of_decide_eq_true this
    exact ⟨p, q, e, ⟨by omega, a2, a3, a4⟩, a5⟩
  · cases this
def outTp (x : RF) : List D := match x with
  | .ok (.d (.tuple rl)) [] => rl
  | _ => []
def isTp (x : RF) : Bool := match x with
  | .ok (.d (.tuple _)) [] => true
  | _ => false
theorem isTp_ok {x : RF} (h : isTp x = true) : x = .ok (.d (.tuple (outTp x))) [] := by
  unfold isTp at h
  split at h
  · rfl
  · cases h
/-- boxes, drawn ones, balls -/
def sizes : List (Nat × Nat × Nat) := [(2, 2, 4), (2, 4, 2), (3, 2, 2), (4, 2, 2), (2, 3, 2), (5, 1, 3), (3, 1, 5), (6, 3, 1), (1, 2, 3), (4, 4, 1)]
def okD (n k : Nat) (Ds : List (List Nat)) (f : Fn) : Bool := isTp (f [.d (.int (n : Nat)), .d (.int (k : Nat))] []) && (okRl (outTp (f [.d (.int (n : Nat)), .d (.int (k : Nat))] [])) (usD n Ds) && Ds.all fun d => decide (d ≠ []) && d.all fun b => decide (b < n))
theorem tabDr : (sizes.all fun s => okD s.1 s.2.1 (rowsN (List.range s.1) s.2.1) fDrawn) = true := by decide +kernel
theorem tabUn : ((List.range 6).all fun a => (List.range (min (a + 1) 4)).all fun b => okD (a + 1) (b + 1) (csN (b + 1) (List.range (a + 1))) fUnlike) = true := by decide +kernel
theorem tabSz : (sizes.all fun s => decide (1 ≤ s.1 ∧ s.1 ≤ 6 ∧ 1 ≤ s.2.1 ∧ s.2.1 ≤ 4 ∧ s.2.2 ≤ 5 ∧ (s.1 ^ s.2.1) ^ s.2.2 ≤ 300 ∧ s.1 ^ s.2.1 ≤ 300)) = true := by decide +kernel
def incB : List Nat → Bool
  | [] => true
  | [_] => true
  | a :: b :: l => decide (a < b) && incB (b :: l)
theorem tabCs : ((List.range 6).all fun a => (List.range (min (a + 1) 4)).all fun b => decide ((rowsN (List.range (a + 1)) (b + 1)).filter incB = csN (b + 1) (List.range (a + 1)))) = true := by decide +kernel
theorem incB_pw : ∀ {l : List Nat}, incB l = true ↔ l.Pairwise (· < ·)
  | [] => by simp [incB]
  | [a] => by simp [incB]
  | a :: b :: l => by
    have ih := incB_pw (l := b :: l)
    unfold incB
    rw [Bool.and_eq_true, decide_eq_true_eq, ih, List.pairwise_cons (a := a)]
    constructor
    · rintro ⟨h1, h2⟩
      refine ⟨fun x hx => ?_, h2⟩
      rcases List.mem_cons.mp hx with rfl | hx
      · exact h1
      · have := (List.pairwise_cons.mp h2).1 x hx
        omega
    · rintro ⟨h1, h2⟩
      exact ⟨h1 b (List.mem_cons_self ..), h2⟩
theorem setI_inc {l : List Nat} : setI (l.map fun b : Nat => (b : Int)) = (l.map fun b : Nat => (b : Int)) ↔ incB l = true := by
  rw [incB_pw]
  constructor
  · intro h
    have pw : (setI (l.map fun b : Nat => (b : Int))).Pairwise (· < ·) := by
      have p1 := sortA_pw (ddI (l.map fun b : Nat => (b : Int)))
      have nd : (setI (l.map fun b : Nat => (b : Int))).Nodup := (sortA_perm _).nodup_iff.mpr ddI_nd
      exact (p1.and nd).imp fun h => by omega
    rw [h, List.pairwise_map] at pw
    exact pw.imp fun h => by omega
  · intro h
    exact (setI_eq (List.pairwise_map.mpr (h.imp fun h => by omega)) fun k => Iff.rfl).symm
theorem dr_rows {n k b : Nat} (h : (n, k, b) ∈ sizes) : DrF n (rowsN (List.range n) k) (usD n (rowsN (List.range n) k)) ∧ ∃ rl, fDrawn [.d (.int (n : Nat)), .d (.int (k : Nat))] [] = .ok (.d (.tuple rl)) [] ∧ RlW 45 (usD n (rowsN (List.range n) k)) rl := by
  have t := List.all_eq_true.mp tabDr _ h
  unfold okD at t
  rw [Bool.and_eq_true, Bool.and_eq_true] at t
  obtain ⟨t1, t2, t3⟩ := t
  refine ⟨⟨fun d hd => ?_, fun s t hs p ψ _ => rows_inv hs p ψ, by simp [usD], fun r hr => ?_⟩, _, isTp_ok t1, okRl_ok t2⟩
  · have := List.all_eq_true.mp t3 d hd
    rw [Bool.and_eq_true, decide_eq_true_eq, List.all_eq_true] at this
    exact ⟨this.1, fun b hb => of_decide_eq_true (this.2 b hb)⟩
  · unfold usD
    rw [getD_get (by simp [hr])]
    simp
theorem dr_sets {n k : Nat} (n1 : 1 ≤ n) (n6 : n ≤ 6) (k1 : 1 ≤ k) (k4 : k ≤ 4) (kn : k ≤ n) : DrF n (csN k (List.range n)) (usD n (csN k (List.range n))) ∧ (∃ rl, fUnlike [.d (.int (n : Nat)), .d (.int (k : Nat))] [] = .ok (.d (.tuple rl)) [] ∧ RlW 45 (usD n (csN k (List.range n))) rl) ∧ (rowsN (List.range n) k).filter incB = csN k (List.range n) := by
  have t := List.all_eq_true.mp (List.all_eq_true.mp tabUn (n - 1) (List.mem_range.mpr (by omega))) (k - 1) (List.mem_range.mpr (by omega))
  have c := of_decide_eq_true (List.all_eq_true.mp (List.all_eq_true.mp tabCs (n - 1) (List.mem_range.mpr (by omega))) (k - 1) (List.mem_range.mpr (by omega)))
  rw [show n - 1 + 1 = n by omega, show k - 1 + 1 = k by omega] at t c
  unfold okD at t
  rw [Bool.and_eq_true, Bool.and_eq_true] at t
  obtain ⟨t1, t2, t3⟩ := t
  refine ⟨⟨fun d hd => ?_, fun s t hs p ψ sy => cs_inv hs p ψ sy, by simp [usD], fun r hr => ?_⟩, ⟨_, isTp_ok t1, okRl_ok t2⟩, c⟩
  · have := List.all_eq_true.mp t3 d hd
    rw [Bool.and_eq_true, decide_eq_true_eq, List.all_eq_true] at this
    exact ⟨this.1, fun b hb => of_decide_eq_true (this.2 b hb)⟩
  · unfold usD
    rw [getD_get (by simp [hr])]
    simp
theorem sets_ok {n k : Nat} (n1 : 1 ≤ n) (n6 : n ≤ 6) (k1 : 1 ≤ k) (k4 : k ≤ 4) (kn : k ≤ n) : f__law_sets [.d (.int (n : Nat)), .d (.int (k : Nat))] [] = .ok (.new (.l ((csN k (List.range n)).map natsD))) [] := by
  have er := rows_ok (xs := (List.range n).map fun i : Nat => PyData.int (i : Int)) (m := k) (by rw [List.length_map, List.length_range]; omega) (by omega) (by
    rw [List.length_map, List.length_range]
    intro j hj
    have h1 : n ^ j ≤ 6 ^ j := Nat.pow_le_pow_left n6 j
    have h2 : (6 : Nat) ^ j ≤ 6 ^ 4 := Nat.pow_le_pow_right (by decide) (by omega)
    have h3 : (6 : Nat) ^ 4 = 1296 := by decide
    omega)
  rw [rowsN_map (fun i : Nat => PyData.int (i : Int)), List.map_map] at er
  have er : _ = RF.ok (.d (.list ((rowsN (List.range n) k).map natsD))) [] := er
  have lr := opListRg_n (n := n) (by omega)
  have lr : opListRg (.d (.int (n : Nat))) = some (.new (.l ((List.range n).map fun i : Nat => PyData.int (i : Int)))) := by
    rw [lr, List.map_map]
    rfl
  have fl := (dr_sets n1 n6 k1 k4 kn).2.2
  have rl : (rowsN (List.range n) k).length ≤ 2000 := by
    rw [rowsN_len, List.length_range]
    have h1 : n ^ k ≤ 6 ^ k := Nat.pow_le_pow_left n6 k
    have h2 : (6 : Nat) ^ k ≤ 6 ^ 4 := Nat.pow_le_pow_right (by decide) (by omega)
    have h3 : (6 : Nat) ^ 4 = 1296 := by decide
    omega
  let SS : S := ⟨[.d (.int (n : Nat)), .d (.int (k : Nat)), .u], []⟩
  have lc := lc_some (own := [2]) (ci := ciSeq (cCallP f__law_rows (lCons (cOp1 opListRg (cVar 0)) (lCons (cVar 1) lNil)))) (tg := tgN 2) (tt := cB (cOp2 opEq (cOp1 opSetSortI (cVar 2)) (cVar 2))) (el := cVar 2) (s := SS) (s1 := SS) (xs := rowsN (List.range n) k) (F := natsD) incB natsD (by
    generalize (rowsN (List.range n) k).map natsD = z at *
    generalize (List.range n).map (fun i : Nat => PyData.int (i : Int)) = z2 at *
    generalize f__law_rows = fr at *
    simp [SS, lr, er]) (by omega) fun r hr => by
    have rr := rowsN_mem hr
    have so := opSetSortI_s (ns := r.map fun b : Nat => (b : Int)) (by rw [List.length_map]; omega)
    have oe := opEq_intsL (as := setI (r.map fun b : Nat => (b : Int))) (bs := r.map fun b : Nat => (b : Int))
    have nd : natsD r = .list ((r.map fun b : Nat => (b : Int)).map PyData.int) := by
      unfold natsD
      rw [List.map_map]
      rfl
    have eb : decide (setI (r.map fun b : Nat => (b : Int)) = r.map fun b : Nat => (b : Int)) = incB r := by
      rw [Bool.eq_iff_iff, decide_eq_true_eq]
      exact setI_inc
    rw [eb] at oe
    rw [nd]
    refine ⟨⟨[.d (.int (n : Nat)), .d (.int (k : Nat)), .d (.list ((r.map fun b : Nat => (b : Int)).map PyData.int))], []⟩, rfl, [.d (.int (n : Nat)), .d (.int (k : Nat)), .d (.list ((r.map fun b : Nat => (b : Int)).map PyData.int))], ?_, fun _ => ⟨[.d (.int (n : Nat)), .d (.int (k : Nat)), .d (.list ((r.map fun b : Nat => (b : Int)).map PyData.int))], by simp⟩⟩
    generalize (setI (r.map fun b : Nat => (b : Int))).map PyData.int = z1 at *
    generalize (r.map fun b : Nat => (b : Int)).map PyData.int = z2 at *
    simp [SS, so, oe]
  rw [fl] at lc
  apply Ok.eq
  unfold f__law_sets
  refine run_ok ?_
  unfold c__law_sets
  generalize (csN k (List.range n)).map natsD = z at *
  exact w_ret (x := .new (.l z)) (s1 := SS) (by
    have lc : _ = _ := lc
    simp only [SS] at lc ⊢
    simp [lc]
    exact .rfl) (ok_new ⟨rfl, rfl⟩)
/-! ### what comes of some balls -/
theorem come_mem {F : List (List Int × Int)} {ws t : List Int} (h : t ∈ keys (comeF F ws)) : ∃ k r, k ∈ keys F ∧ r < ws.length ∧ t = inc k r := by
  unfold comeF at h
  have h := accL_keys.mp h
  obtain ⟨e, he, rfl⟩ := List.mem_map.mp h
  unfold comeE at he
  obtain ⟨k, hk, he⟩ := List.mem_flatMap.mp he
  obtain ⟨r, hr, er⟩ := mem_evTo.mp he
  unfold incEv at er
  split at er
  · cases er
    exact ⟨k, r, hk, hr, rfl⟩
  · cases er
theorem inc_le {k : List Int} {r : Nat} {c : Int} (h : ∀ x, x ∈ k → x ≤ c) (c0 : 0 ≤ c) : ∀ x, x ∈ inc k r → x ≤ c + 1 := fun x hx => by
  unfold inc at hx
  rw [sortD_mem] at hx
  rcases List.mem_or_eq_of_mem_set hx with q | rfl
  · have := h x q
    omega
  · by_cases z : r < k.length
    · have := h _ (getD_memS (xs := k) z)
      omega
    · rw [List.getD_eq_getElem?_getD, List.getElem?_eq_none (by omega)]
      show (0 : Int) + 1 ≤ c + 1
      omega
/-- few loads on the way -/
def fewB (n m : Nat) : Bool := (List.range (m + 1)).all fun i => (List.range (2 * n + i + 1)).all fun b => decide ((allL n b (2 + i)).length ≤ 60)
theorem tabFw : (sizes.all fun s => fewB s.1 s.2.2) = true := by decide +kernel
structure Fw (n m : Nat) : Prop where
  few : ∀ i b, i ≤ m → b ≤ 2 * n + i → (allL n b (2 + i)).length ≤ 60
theorem fw_ok {n k m : Nat} (h : (n, k, m) ∈ sizes) : Fw n m := ⟨fun i b hi hb => by
  have t := List.all_eq_true.mp tabFw _ h
  unfold fewB at t
  exact of_decide_eq_true (List.all_eq_true.mp (List.all_eq_true.mp t i (List.mem_range.mpr (show i < m + 1 by omega))) b (List.mem_range.mpr (show b < 2 * n + i + 1 by omega)))⟩
theorem Fw.le {n m j : Nat} (h : Fw n m) (hj : j ≤ m) : Fw n j := ⟨fun i b hi hb => h.few i b (by omega) hb⟩
structure Cm (n b i : Nat) (us k : List Int) : Prop where
  sw : SW n (b + i) (CmS us [(k, 1)] i)
  le : ∀ t, t ∈ keys (CmS us [(k, 1)] i) → ∀ x, x ∈ t → x ≤ ((2 + i : Nat) : Int)
  bs : Bs (10 * i + 1) (sumW (CmS us [(k, 1)] i))
theorem cm_ok {n b : Nat} {us k : List Int} (hk : Ld n (b : Int) k) (k2 : ∀ x, x ∈ k → x ≤ 2) (lu : us.length = n) (nn : ∀ u, u ∈ us → 0 ≤ u) (s1 : 1 ≤ us.sum) (bu : Bs 10 us.sum) : ∀ i, Cm n b i us k
  | 0 => ⟨sw_one hk, fun t ht x hx => by
    have ht : t ∈ [k] := ht
    rw [List.mem_singleton.mp ht] at hx
    exact k2 x hx, by show (1 : Int).natAbs < 2 ^ 1; decide⟩
  | i + 1 => by
    have ih := cm_ok hk k2 lu nn s1 bu i
    obtain ⟨C, cs⟩ := sw_come ih.sw lu nn s1
    refine ⟨C, fun t ht x hx => ?_, ?_⟩
    · obtain ⟨k', r, hk', _, rfl⟩ := come_mem ht
      have := inc_le (c := ((2 + i : Nat) : Int)) (ih.le k' hk') (by omega) x hx
      omega
    · show Bs _ (sumW (comeF _ _))
      rw [cs]
      exact bs_up (bs_mul ih.bs bu) (by omega)
theorem cm_few {n b m i : Nat} {us k : List Int} (F : Fw n m) (h : Cm n b i us k) (hi : i ≤ m) (hb : b ≤ 2 * n) : (CmS us [(k, 1)] i).length ≤ 60 := by
  have := nodup_len (ys := allL n (b + i) (2 + i)) h.sw.nd fun t ht => allL_mem (h.sw.ld t ht) (h.le t ht)
  unfold keys at this
  rw [List.length_map] at this
  have := F.few i (b + i) hi (by omega)
  omega
theorem after_okL {n b m : Nat} {us k : List Int} {rl : List D} (F : Fw n m) (R : RlW 45 us rl) (hk : Ld n (b : Int) k) (k2 : ∀ x, x ∈ k → x ≤ 2) (lu : us.length = n) (bu : Bs 10 us.sum) (n1 : 1 ≤ n) (n6 : n ≤ 6) (hb : b ≤ 2 * n) (hm : m ≤ 5) :
    ∃ ds, fAfterS [.d (.tuple rl), .d (.list [rowD k (shD 1 1)]), .d (.int (m : Nat))] [] = .ok (.new (.l ds)) [] ∧ Spr 100 (CmS us [(k, 1)] m) ds := by
  have cm := cm_ok hk k2 lu R.pos R.s1 bu
  have step : ∀ i, i < m → ∀ ds, Spr 100 (CmS us [(k, 1)] i) ds → ∃ ds', fPutS [.d (.tuple rl), .d (.list ds)] [] = .ok (.new (.l ds')) [] ∧ Spr 100 (CmS us [(k, 1)] (i + 1)) ds' := fun i hi ds hS => by
    have c := cm i
    have fl := cm_few F c (by omega) hb
    have fl2 := cm_few F (cm (i + 1)) (by omega) hb
    have b100 : Bs 100 (sumW (CmS us [(k, 1)] i)) := bs_up c.bs (by omega)
    have nf := needRS_ok hS (c.sw.ldF n1) c.sw.s1.1 (by rw [R.len, lu])
    obtain ⟨ds', e, sp⟩ := putF_ok (K' := 100) hS (c.sw.ldF n1) (c.sw.wok n1 (by omega) b100) R lu (by decide) (Nat.le_refl _) (by decide) (by decide) (by
      have := (cm (i + 1)).bs
      have e : sumW (CmS us [(k, 1)] (i + 1)) = sumW (CmS us [(k, 1)] i) * us.sum := (sw_come c.sw lu R.pos R.s1).2
      rw [← e]
      exact bs_up this (by omega)) (by
      have : (CmS us [(k, 1)] i).length * n ≤ 60 * 6 := Nat.mul_le_mul fl n6
      omega)
    have := putS_run nf e
    rw [if_pos (by rw [sp.len]; exact fl2)] at this
    exact ⟨ds', this, sp⟩
  have ex : ∀ i : Nat, ∃ ds, i ≤ m → Spr 100 (CmS us [(k, 1)] i) ds := fun i => by
    by_cases h : i ≤ m
    · have go : ∀ i, i ≤ m → ∃ ds, Spr 100 (CmS us [(k, 1)] i) ds := fun i => by
        induction i with
        | zero => exact fun _ => ⟨_, (spr_al k).up (by decide)⟩
        | succ i ih =>
          intro hi
          obtain ⟨ds, h⟩ := ih (by omega)
          obtain ⟨ds', _, h'⟩ := step i (by omega) ds h
          exact ⟨ds', h'⟩
      obtain ⟨ds, h4⟩ := go i h
      exact ⟨ds, fun _ => h4⟩
    · exact ⟨[], fun z => absurd z h⟩
  let f := fun i => Classical.choose (ex i)
  have fs : ∀ i, i ≤ m → Spr 100 (CmS us [(k, 1)] i) (f i) := fun i hi => Classical.choose_spec (ex i) hi
  have f0 : f 0 = [rowD k (shD 1 1)] := spr_one_row (fs 0 (by omega))
  have h2 : ∀ i, i < m → fPutS [.d (.tuple rl), .d (.list (f i))] [] = .ok (.new (.l (f (i + 1)))) [] := fun i hi => by
    obtain ⟨ds', e, sp⟩ := step i hi _ (fs i (by omega))
    have : ds' = f (i + 1) := sp.one (fs (i + 1) (by omega)) (cm (i + 1)).sw.nd (cm (i + 1)).sw.nd (fun _ => Iff.rfl) fun _ _ => rfl
    rw [this] at e
    exact e
  have need := needRS_ok (rl := rl) (fs 0 (by omega)) ((sw_one hk).ldF n1) (show 1 ≤ sumW (CmS us [(k, 1)] 0) from Int.le_refl 1) (by rw [R.len, lu])
  have := afterS_run (a := .tuple rl) (f := f) need (by omega) h2
  rw [f0] at this
  exact ⟨f m, this, fs m (Nat.le_refl m)⟩
end Vm
namespace Vm
open PySem L2 PySem.Spec PyProof.Rows
theorem gev_accL (E : List (List Int × Int)) (k : List Int) : wt (accL E) k = gev E k := accL_wt
/-- whole weights that answer all questions as a spread's do are its weights -/
structure Like (n b : Nat) (F A : List (List Int × Int)) : Prop where
  nd : (keys A).Nodup
  ie : ∀ f : List Int → Int, IE A f = IE F f
  pos : ∀ k, k ∈ keys A → 1 ≤ wt A k
theorem Like.wt {n b : Nat} {F A : List (List Int × Int)} (h : Like n b F A) (S : SW n b F) (k : List Int) : Vm.wt A k = Vm.wt F k := by
  have := h.ie fun x => if x = k then 1 else 0
  rw [IE_one, IE_one, gev_wt h.nd, gev_wt S.nd] at this
  exact this
theorem Like.key {n b : Nat} {F A : List (List Int × Int)} (h : Like n b F A) (S : SW n b F) (k : List Int) : k ∈ keys A ↔ k ∈ keys F := by
  have e := h.wt S k
  have no : ∀ {G : List (List Int × Int)}, k ∉ keys G → Vm.wt G k = 0 := fun {G} hk => by
    unfold Vm.wt
    rw [aget_none hk]
    rfl
  constructor
  · intro hk
    apply Classical.byContradiction
    intro z
    have := h.pos k hk
    rw [e, no z] at this
    omega
  · intro hk
    apply Classical.byContradiction
    intro z
    have := S.w k hk
    rw [← e, no z] at this
    omega
theorem Like.sw {n b : Nat} {F A : List (List Int × Int)} (h : Like n b F A) (S : SW n b F) : SW n b A := by
  refine ⟨h.nd, fun z => ?_, h.pos, fun k hk => S.ld k ((h.key S k).mp hk)⟩
  obtain ⟨k, hk⟩ := List.exists_mem_of_ne_nil _ S.ne
  have := (h.key S k).mpr hk
  rw [z] at this
  cases this
theorem Like.sum {n b : Nat} {F A : List (List Int × Int)} (h : Like n b F A) : sumW A = sumW F := by
  have := h.ie fun _ => 1
  rw [IE_ones, IE_ones] at this
  exact this
theorem right_ok {n b : Nat} {F A : List (List Int × Int)} {ds : List D} (L : Like n b F A) (S : SW n b F) (P : Spr 100 F ds) (n1 : 1 ≤ n) (n6 : n ≤ 6) (hb : b ≤ 100) (hl : F.length ≤ 60) (bs : Bs 60 (sumW F)) : f__law_right [.d (.list ds), .d (dT (fiD A))] [] = .ok (.d (.bool true)) [] := by
  have SA := L.sw S
  have sA := L.sum
  have lA : A.length ≤ 60 := by
    have := nodup_len (ys := keys F) L.nd fun k hk => (L.key S k).mp hk
    unfold keys at this
    rw [List.length_map, List.length_map] at this
    omega
  have okA := SA.wok n1 (by omega) (K := 60) (by rw [sA]; exact bs)
  have okF := S.wok n1 (by omega) (K := 100) (bs_up bs (by decide))
  obtain ⟨ds2, e1, P2⟩ := lawSpr_ok okA (by decide)
  have same : ds = ds2 := spr_same S SA (fun f => by rw [sA, L.ie]) P P2
  rw [← same] at e1
  -- the text
  have ldb : ∀ k, k ∈ keys F → k.length ≤ 12 ∧ ∀ x, x ∈ k → Bs 20 x := fun k hk => by
    have l := S.ld k hk
    refine ⟨by rw [l.len]; omega, fun x hx => ?_⟩
    have a := l.pos x hx
    have c := mem_le_sum l.pos x hx
    rw [l.sum] at c
    show x.natAbs < 2 ^ 20
    omega
  have rp := (spr_kd P (by decide) ldb (by omega)).rep (by omega) (by decide)
  -- the mean
  have hq : SmQ 100 F (hv4 "fullest") := ⟨okF, fun k hk => ?_, fun k hk => ?_⟩
  rotate_left
  · have l := S.ld k hk
    rw [hv_f]
    have m := getD_memS (xs := k) (i := 0) (by rw [l.len]; omega)
    exact l.pos _ m
  · have l := S.ld k hk
    rw [hv_f]
    have m := getD_memS (xs := k) (i := 0) (by rw [l.len]; omega)
    have := mem_le_sum l.pos _ m
    rw [l.sum] at this
    omega
  obtain ⟨d, e2, t2⟩ := meanE_ok (.inl rfl) hq (by decide) (by decide) P fun k hk => by
    have l := S.ld k hk
    refine ⟨fun x hx => ⟨l.pos x hx, ?_⟩, by rw [l.len]; omega⟩
    have := mem_le_sum l.pos x hx
    rw [l.sum] at this
    omega
  have s1 := S.s1.1
  obtain ⟨i0, ib⟩ := ie_bs hq
  obtain ⟨p, q, e3, sh, r⟩ := lowest_ok (top := IE F (hv4 "fullest")) (bot := sumW F) (j := 120) (k := 120) i0 s1 ib (bs_up bs (by decide)) (by decide)
  have t3 : Tell 120 (shD p q) ((IE F (hv4 "fullest") : Rat) / (sumW F : Int)) := by
    refine ⟨p, q, rfl, sh, ?_⟩
    have a1 := rat_ne s1
    have : ((p * sumW F : Int) : Rat) = ((IE F (hv4 "fullest") * q : Int) : Rat) := by rw [r]
    rw [Rat.intCast_mul, Rat.intCast_mul] at this
    grind
  have ed : d = shD p q := t2.one t3
  rw [← ed] at e3
  have okd' : okd d = true := by
    rw [ed]
    exact okd_intsT [p, q]
  have oe := opEq_self okd'
  have sv := opSumV_dT (F := A)
  have sv : opSumV (.d (dT (fiD A))) = some (.d (.int (sumW F))) := by rw [← sA]; exact sv
  have ck : ∀ v c, ciKeyT (cVar 1) ⟨.d (.list ds) :: .d (dT (fiD A)) :: v, c⟩ = .ok ((keys A).map ldD) ⟨.d (.list ds) :: .d (dT (fiD A)) :: v, c⟩ := fun v c => by
    have := ciKeyT_dT (F := fiD A) (c := cVar 1) (s := ⟨.d (.list ds) :: .d (dT (fiD A)) :: v, c⟩) (s1 := ⟨.d (.list ds) :: .d (dT (fiD A)) :: v, c⟩) (by simp)
    rw [keys_fiD] at this
    exact this
  have it : ∀ k, k ∈ keys A → opItem (.d (dT (fiD A))) (.d (ldD k)) = some (.d (.int (wt A k))) := fun k hk => opItem_dT (by rw [aget_fiD, aget_wt hk]; rfl)
  have kx : ∀ k, k ∈ keys A → opIx (.d (ldD k)) (.d (.int 0)) = some (.d (.int (k.getD 0 0))) := fun k hk => by
    have l := SA.ld k hk
    rw [getD_get (show 0 < k.length by rw [l.len]; omega)]
    refine opIx_t (atI_nat (by omega) ?_)
    show (k.map PyData.int)[0]? = _
    rw [List.getElem?_map, List.getElem?_eq_getElem (by rw [l.len]; omega)]
    rfl
  have tops : ((keys A).map fun k => wt A k * k.getD 0 0).sum = IE F (hv4 "fullest") := by
    rw [← L.ie, IE_wt L.nd]
    refine congrArg List.sum (List.map_congr_left fun k _ => ?_)
    rw [hv_f, Int.mul_comm]
  have mu : ∀ k, k ∈ keys A → opMulV (.d (.int (wt A k))) (.d (.int (k.getD 0 0))) = some (.d (.int (wt A k * k.getD 0 0))) := fun k hk => by
    have l := SA.ld k hk
    have m := getD_memS (xs := k) (i := 0) (by rw [l.len]; omega)
    have a := l.pos _ m
    have c := mem_le_sum l.pos _ m
    rw [l.sum] at c
    have w1 := SA.w k hk
    have w2 := SA.s1.2 k hk
    rw [sA] at w2
    exact opMul_y (k := 60) (l := 10) (bs_le (by omega) w2 bs) (show (k.getD 0 0).natAbs < 2 ^ 10 by omega) (by decide) (by decide)
  have kl : (keys A).length = A.length := by unfold keys; rw [List.length_map]
  obtain ⟨X, hX⟩ : ∃ X, PyData.list ds = X := ⟨_, rfl⟩
  obtain ⟨Y, hY⟩ : ∃ Y, dT (fiD A) = Y := ⟨_, rfl⟩
  rw [hY] at e1 sv it
  rw [hX] at rp e2
  simp only [hX, hY] at ck
  rw [hX, hY]
  have sn := str_ne (z := X.shown)
  apply Ok.eq
  unfold f__law_right
  refine run_ok ?_
  unfold c__law_right
  let V := fun (x2 x3 : Sl) => (⟨[.d X, .d Y, x2, x3], []⟩ : Vm.S)
  refine w_sif (x := false) (s1 := V .u .u) (by
    simp [V, rp, e1, hX, sn]
    exact .rfl) (fun z => nomatch z) fun _ => w_nxS ?_
  have lc := lc_for (own := [3]) (ci := ciKeyT (cVar 1)) (tg := tgN 3) (el := cOp2 opMulV (cOp2 opItem (cVar 1) (cVar 3)) (cOp2 opIx (cVar 3) (cC (.int 0)))) (s := V .u .u) (s1 := V .u .u) (xs := keys A) (F := ldD) (fun k => .int (wt A k * k.getD 0 0)) (by exact ck _ _) (by omega) fun k hk => by
    have a1 := it k hk
    have a2 := kx k hk
    have a3 := mu k hk
    refine ⟨V .u (.d (ldD k)), rfl, [.d X, .d Y, .u, .d (ldD k)], ?_⟩
    generalize wt A k * k.getD 0 0 = y1 at *
    generalize k.getD 0 0 = y2 at *
    generalize ldD k = z at *
    simp [V, a1, a2, a3]
  have os := opSum_il (ns := (keys A).map fun k => wt A k * k.getD 0 0)
  rw [tops, List.map_map] at os
  have os : opSum (.d (.list ((keys A).map fun k => PyData.int (wt A k * k.getD 0 0)))) = some (.d (.int (IE F (hv4 "fullest")))) := os
  generalize IE F (hv4 "fullest") = T at *
  refine st (s1 := V (.d (.int T)) .u) (by
    generalize (keys A).map (fun k => PyData.int (wt A k * k.getD 0 0)) = z at *
    simp only [V] at lc ⊢
    simp [lc, os]
    exact .rfl) ?_
  exact w_rD (x := .bool true) [] ⟨_, by simp [V, e2, sv, e3, oe]; exact .rfl⟩ fun _ => ok_0 ⟨rfl, rfl⟩
/-- what is counted by all rows of draws -/
theorem like_counts {n b m : Nat} {Ds : List (List Nat)} {us s0 : List Int} {last : Bool} (D : DrF n Ds us) (hs : s0.length = n) (nn : ∀ u, u ∈ us → 0 ≤ u) (sw : ∀ i, (keys (CmS us [(sortD s0, 1)] i)).Nodup) : Like n b (CmS us [(sortD s0, 1)] m) (accL ((rowsN Ds m).map fun row => (sortD (foldS last s0 row), 1))) := by
  refine ⟨accL_nodup _, fun f => ?_, fun k hk => ?_⟩
  · have e := rows_IE (b := b) D last hs nn sw m f
    rw [← e]
    have : IE (accL ((rowsN Ds m).map fun row => (sortD (foldS last s0 row), (1 : Int)))) f = IE ((rowsN Ds m).map fun row => (sortD (foldS last s0 row), (1 : Int))) f := by
      rw [IE_wt (accL_nodup _)]
      have e2 : ((keys (accL ((rowsN Ds m).map fun row => (sortD (foldS last s0 row), (1 : Int))))).map fun k => f k * wt (accL ((rowsN Ds m).map fun row => (sortD (foldS last s0 row), (1 : Int)))) k) = (keys (accL ((rowsN Ds m).map fun row => (sortD (foldS last s0 row), (1 : Int))))).map fun k => f k * gev ((rowsN Ds m).map fun row => (sortD (foldS last s0 row), (1 : Int))) k := List.map_congr_left fun k _ => by rw [gev_accL]
      rw [e2]
      exact IE_keys (accL_nodup _) _ fun p hp => accL_keys.mpr (List.mem_map_of_mem hp)
    rw [this]
    unfold IE
    rw [List.map_map]
    refine congrArg List.sum (List.map_congr_left fun row _ => ?_)
    show f (sortD (foldS last s0 row)) * 1 = _
    rw [Int.mul_one]
    rfl
  · have hk := accL_keys.mp hk
    rw [gev_accL]
    obtain ⟨e, he, rfl⟩ := List.mem_map.mp hk
    have go : ∀ E : List (List Int × Int), (∀ x, x ∈ E → x.2 = 1) → e ∈ E → 1 ≤ gev E e.1 := fun E => by
      have nn : ∀ E : List (List Int × Int), (∀ x, x ∈ E → x.2 = 1) → 0 ≤ gev E e.1 := fun E hE => by
        unfold gev
        exact sum_nonneg fun y hy => by
          obtain ⟨x, hx, rfl⟩ := List.mem_map.mp hy
          rw [hE x hx]
          split <;> decide
      induction E with
      | nil => intro _ h; cases h
      | cons x E ih =>
        intro hE h
        have g : gev (x :: E) e.1 = (if x.1 = e.1 then x.2 else 0) + gev E e.1 := rfl
        have n0 := nn E fun y hy => hE y (List.mem_cons_of_mem _ hy)
        have x1 := hE x (List.mem_cons_self ..)
        rw [g]
        rcases List.mem_cons.mp h with rfl | h
        · rw [if_pos rfl]
          omega
        · have := ih (fun y hy => hE y (List.mem_cons_of_mem _ hy)) h
          split <;> omega
    exact go _ (fun x hx => by obtain ⟨row, _, rfl⟩ := List.mem_map.mp hx; rfl) he
theorem like_ranks {n b m : Nat} {us k0 : List Int} (lu : us.length = n) (nn : ∀ u, u ∈ us → 0 ≤ u) (sw : ∀ i, (keys (CmS us [(k0, 1)] i)).Nodup) : Like n b (CmS us [(k0, 1)] m) (accL ((rowsN (List.range n) m).flatMap (evR us k0))) := by
  have p0 : ∀ row : List Nat, 0 ≤ prodW us row := fun row => by
    unfold prodW
    have go : ∀ (l : List Nat) (a : Int), 0 ≤ a → 0 ≤ (l.map fun r => us.getD r 0).foldl (· * ·) a := fun l => by
      induction l with
      | nil => exact fun a h => h
      | cons x l ih =>
        intro a h
        exact ih _ (Int.mul_nonneg h (getD_nn nn x))
    exact go row 1 (by decide)
  refine ⟨accL_nodup _, fun f => ?_, fun k hk => ?_⟩
  · have e := ranks_IE nn sw m f
    rw [lu] at e
    rw [← e]
    have : IE (accL ((rowsN (List.range n) m).flatMap (evR us k0))) f = IE ((rowsN (List.range n) m).flatMap (evR us k0)) f := by
      rw [IE_wt (accL_nodup _)]
      have e2 : ((keys (accL ((rowsN (List.range n) m).flatMap (evR us k0)))).map fun k => f k * wt (accL ((rowsN (List.range n) m).flatMap (evR us k0))) k) = (keys (accL ((rowsN (List.range n) m).flatMap (evR us k0)))).map fun k => f k * gev ((rowsN (List.range n) m).flatMap (evR us k0)) k := List.map_congr_left fun k _ => by rw [gev_accL]
      rw [e2]
      exact IE_keys (accL_nodup _) _ fun p hp => accL_keys.mpr (List.mem_map_of_mem hp)
    rw [this, IE_flat]
    refine congrArg List.sum (List.map_congr_left fun row _ => ?_)
    unfold evR
    by_cases z : 0 < prodW us row
    · rw [if_pos z, IE_cons]
      show f (row.foldl inc k0) * prodW us row + 0 = _
      rw [Int.add_zero]
      rfl
    · rw [if_neg z]
      have : prodW us row = 0 := by have := p0 row; omega
      show 0 = f (row.foldl inc k0) * prodW us row
      rw [this, Int.mul_zero]
  · have hk := accL_keys.mp hk
    rw [gev_accL]
    obtain ⟨e, he, rfl⟩ := List.mem_map.mp hk
    have pos : ∀ x, x ∈ (rowsN (List.range n) m).flatMap (evR us k0) → 1 ≤ x.2 := fun x hx => by
      obtain ⟨row, _, hx⟩ := List.mem_flatMap.mp hx
      unfold evR at hx
      split at hx
      · rename_i z
        rw [List.mem_singleton.mp hx]
        exact z
      · cases hx
    have go : ∀ E : List (List Int × Int), (∀ x, x ∈ E → 1 ≤ x.2) → e ∈ E → 1 ≤ gev E e.1 := fun E => by
      have nn : ∀ E : List (List Int × Int), (∀ x, x ∈ E → 1 ≤ x.2) → 0 ≤ gev E e.1 := fun E hE => by
        unfold gev
        exact sum_nonneg fun y hy => by
          obtain ⟨x, hx, rfl⟩ := List.mem_map.mp hy
          have := hE x hx
          show 0 ≤ if x.1 = e.1 then x.2 else 0
          split <;> omega
      induction E with
      | nil => intro _ h; cases h
      | cons x E ih =>
        intro hE h
        have g : gev (x :: E) e.1 = (if x.1 = e.1 then x.2 else 0) + gev E e.1 := rfl
        have n0 := nn E fun y hy => hE y (List.mem_cons_of_mem _ hy)
        have x1 := hE x (List.mem_cons_self ..)
        rw [g]
        rcases List.mem_cons.mp h with rfl | h
        · rw [if_pos rfl]
          omega
        · have := ih (fun y hy => hE y (List.mem_cons_of_mem _ hy)) h
          split <;> omega
    exact go _ pos he
end Vm
namespace Vm
open PySem L2 PySem.Spec PyProof.Rows
theorem tabSD : (sizes.all fun s => decide ((usD s.1 (rowsN (List.range s.1) s.2.1)).sum ≤ 1000 ∧ ((rowsN (List.range s.1) s.2.1).all fun d => decide (d.length ≤ 1000)) = true)) = true := by decide +kernel
theorem tabSU : ((List.range 6).all fun a => (List.range (min (a + 1) 4)).all fun b => decide ((usD (a + 1) (csN (b + 1) (List.range (a + 1)))).sum ≤ 1000 ∧ 1 ≤ (csN (b + 1) (List.range (a + 1))).length ∧ (csN (b + 1) (List.range (a + 1))).length ≤ 1000 ∧ ((csN (b + 1) (List.range (a + 1))).all fun d => decide (d.length ≤ 1000)) = true)) = true := by decide +kernel
theorem check_ok {n b m : Nat} {us k : List Int} {rl : List D} {A : List (List Int × Int)} (F : Fw n m) (R : RlW 45 us rl) (hk : Ld n (b : Int) k) (k2 : ∀ x, x ∈ k → x ≤ 2) (lu : us.length = n) (s3 : us.sum ≤ 1000) (n1 : 1 ≤ n) (n6 : n ≤ 6) (hb : b ≤ 2 * n) (hm : m ≤ 5) (L : Like n (b + m) (CmS us [(k, 1)] m) A) :
    ∃ ds, fAfterS [.d (.tuple rl), .d (.list [rowD k (shD 1 1)]), .d (.int (m : Nat))] [] = .ok (.new (.l ds)) [] ∧ f__law_right [.d (.list ds), .d (dT (fiD A))] [] = .ok (.d (.bool true)) [] := by
  have s1 := R.s1
  have bu : Bs 10 us.sum := show us.sum.natAbs < 2 ^ 10 by omega
  obtain ⟨ds, e, P⟩ := after_okL F R hk k2 lu bu n1 n6 hb hm
  have cm := cm_ok hk k2 lu R.pos R.s1 bu m
  exact ⟨ds, e, right_ok L cm.sw P n1 n6 (by omega) (cm_few F cm (Nat.le_refl _) hb) (bs_up cm.bs (by omega))⟩
theorem law_true (ns : List Int) (hl : ns.length ≤ 63) : f_law [.d (.list (ns.map PyData.int))] [] = .ok (.d (.bool true)) [] := by
  have e0 := pen_new (ns := ns) hl
  unfold f_law
  refine run_eq ?_
  unfold c_law
  obtain ⟨SC, hSC⟩ : ∃ z, PyData.list (ns.map PyData.int) = z := ⟨_, rfl⟩
  rw [hSC] at e0 ⊢
  let ST := fun (x2 x3 x4 x5 x6 x7 x8 x9 x10 x11 x12 : Sl) (m : List Cell) => (⟨[.d SC, .c 0, x2, x3, x4, x5, x6, x7, x8, x9, x10, x11, x12, .u], m⟩ : Vm.S)
  refine st (s1 := ST .u .u .u .u .u .u .u .u .u .u .u [penC ns 0 0]) (by simp [e0]; exact .rfl) ?_
  obtain ⟨XA, hXA⟩ : ∃ XA : List D, XA = [.tuple [.int 2, .int 2, .int 4], .tuple [.int 2, .int 4, .int 2], .tuple [.int 3, .int 2, .int 2], .tuple [.int 4, .int 2, .int 2], .tuple [.int 2, .int 3, .int 2], .tuple [.int 5, .int 1, .int 3], .tuple [.int 3, .int 1, .int 5], .tuple [.int 6, .int 3, .int 1]] := ⟨_, rfl⟩
  let d2 : Sl := .d (.list XA)
  refine st (s1 := ST d2 .u .u .u .u .u .u .u .u .u .u [penC ns 0 0]) (by simp only [d2, hXA]; simp [ST]; exact .rfl) ?_
  obtain ⟨i, p1, e1, i0, i1, hp1⟩ := dB [] 10 (pen_is hl)
  obtain ⟨XB, hXB⟩ : ∃ XB : List D, XB = XA ++ [.tuple [.int 1, .int 2, .int 3], .tuple [.int 4, .int 4, .int 1]] := ⟨_, rfl⟩
  have ad : opAdd (.d (.list XA)) (.d (.list [.tuple [.int 1, .int 2, .int 3], .tuple [.int 4, .int 4, .int 1]])) = some (.new (.l XB)) := by
    rw [hXB]
    exact opAdd_l (by rw [hXA]; decide)
  have eX : XB = sizes.map fun s => .tuple [.int (s.1 : Nat), .int (s.2.1 : Nat), .int (s.2.2 : Nat)] := by rw [hXB, hXA]; rfl
  obtain ⟨n, kk, m, hs, ix⟩ : ∃ n k m : Nat, (n, k, m) ∈ sizes ∧ opIx (.d (.list XB)) (.d (.int i)) = some (.d (.tuple [.int (n : Nat), .int (k : Nat), .int (m : Nat)])) := by
    obtain ⟨j, rfl⟩ : ∃ j : Nat, i = (j : Int) := ⟨i.toNat, by omega⟩
    have jl : j < sizes.length := by show j < 10; omega
    refine ⟨sizes[j].1, sizes[j].2.1, sizes[j].2.2, List.getElem_mem jl, ?_⟩
    have := opIx_ln (ds := XB) (i := j) (by rw [eX, List.length_map]; exact jl)
    rw [this]
    congr 2
    have : XB[j]? = (sizes.map fun s => PyData.tuple [.int (s.1 : Nat), .int (s.2.1 : Nat), .int (s.2.2 : Nat)])[j]? := by rw [eX]
    rw [List.getElem?_map, List.getElem?_eq_getElem jl, List.getElem?_eq_getElem (by rw [eX, List.length_map]; exact jl)] at this
    exact Option.some.inj this
  clear hXA hXB eX
  have sz := of_decide_eq_true (List.all_eq_true.mp tabSz _ hs)
  have n1 : 1 ≤ n := sz.1
  have n6 : n ≤ 6 := sz.2.1
  have k1 : 1 ≤ kk := sz.2.2.1
  have k4 : kk ≤ 4 := sz.2.2.2.1
  have m5 : m ≤ 5 := sz.2.2.2.2.1
  have r300 : (n ^ kk) ^ m ≤ 300 := sz.2.2.2.2.2.1
  have d300 : n ^ kk ≤ 300 := sz.2.2.2.2.2.2
  have Fm := fw_ok hs
  obtain ⟨DR, rlD, eDr, RD⟩ := dr_rows hs
  obtain ⟨sD, lD⟩ := of_decide_eq_true (List.all_eq_true.mp tabSD _ hs)
  have sD : (usD n (rowsN (List.range n) kk)).sum ≤ 1000 := sD
  have lD := fun d hd => of_decide_eq_true (List.all_eq_true.mp lD d hd)
  clear hs sz
  let d3 : Sl := .d (.int (n : Nat))
  let d4 : Sl := .d (.int (kk : Nat))
  let DI : Nat → Sl := fun m => .d (.int (m : Nat))
  refine st (s1 := ST d2 d3 d4 (DI m) .u .u .u .u .u .u .u [p1]) (by simp [ST, d2, ad, e1, ix, asg_3]; exact .rfl) ?_
  obtain ⟨v, p2, e2, v0, v1, hp2⟩ := dB [] 2 hp1
  let last : Bool := decide (v = 1)
  let d6 : Sl := .d (.bool last)
  refine st (s1 := ST d2 d3 d4 (DI m) d6 .u .u .u .u .u .u [p2]) (by simp [ST, e2]; exact .rfl) ?_
  -- the stand
  obtain ⟨acc, m', elc, al, aj, p3, rfl, hp3⟩ := lc_draws (own := [13]) (ci := ciR1 (cVar 3)) (tg := tgN 13) (el := cCall fDrawB (lCons (cVar 1) (lCons (cOp2 opIx (cLst (cCons (cC (.int 1)) (cCons (cC (.int 3)) cNil))) (cCall fDrawB (lCons (cVar 1) (lCons (cC (.int 2)) lNil)))) lNil))) (s := ST d2 d3 d4 (DI m) d6 .u .u .u .u .u .u [p2]) (s1 := ST d2 d3 d4 (DI m) d6 .u .u .u .u .u .u [p2]) (ds := (List.range n).map fun i : Nat => PyData.int (i : Int))
    (fun i c => ∃ q, c = [q] ∧ IsPen (2 + 2 * i) q) (fun x => ∃ w, x = .int w ∧ (0 ≤ w ∧ w ≤ 2)) (ciR1_n (by simp [ST, d3]) (by omega)) (by rw [List.length_map, List.length_range]; omega) ⟨p2, rfl, hp2.mono (by omega)⟩ fun i c d hd hi => by
      obtain ⟨q, rfl, hq⟩ := hi
      have il := (List.getElem?_eq_some_iff.mp hd).1
      rw [List.length_map, List.length_range] at il
      obtain ⟨u, q1, eu, u0, u1, hq1⟩ := dB [] 2 hq
      obtain ⟨w, hw, w1, w3⟩ : ∃ w : Int, opIx (.d (.list [PyData.int 1, .int 3])) (.d (.int u)) = some (.d (.int w)) ∧ 1 ≤ w ∧ w ≤ 3 := by
        have : u = 0 ∨ u = 1 := by omega
        rcases this with rfl | rfl
        · exact ⟨1, rfl, by decide, by decide⟩
        · exact ⟨3, rfl, by decide, by decide⟩
      obtain ⟨g, q2, eg, g0, g1, hq2⟩ := dB [] w hq1
      refine ⟨⟨[.d SC, .c 0, d2, d3, d4, DI m, d6, .u, .u, .u, .u, .u, .u, .d d], [q]⟩, rfl, .int g, [.d SC, .c 0, d2, d3, d4, DI m, d6, .u, .u, .u, .u, .u, .u, .d d], [q2], ?_, ⟨_, rfl, by omega, by omega⟩, q2, rfl, hq2.mono (by omega)⟩
      simp [eu, hw, eg]
  rw [List.length_map, List.length_range] at al hp3
  have hp3 := hp3.mono (show 2 + 2 * n ≤ 20 by omega)
  obtain ⟨s0, rfl, hs0⟩ : ∃ s0 : List Int, acc = s0.map PyData.int ∧ ∀ x, x ∈ s0 → 0 ≤ x ∧ x ≤ 2 := by
    clear al elc
    induction acc with
    | nil => exact ⟨[], rfl, fun x hx => nomatch hx⟩
    | cons d ds ih =>
      obtain ⟨w, rfl, hw⟩ := aj d (List.mem_cons_self ..)
      obtain ⟨ws, rfl, q⟩ := ih fun x hx => aj x (List.mem_cons_of_mem _ hx)
      exact ⟨w :: ws, rfl, fun v hv => by
        rcases List.mem_cons.mp hv with rfl | hv
        · exact hw
        · exact q v hv⟩
  rw [List.length_map] at al
  obtain ⟨b, hb⟩ : ∃ b : Nat, s0.sum = (b : Int) := ⟨s0.sum.toNat, by have := sum_nonneg fun x hx => (hs0 x hx).1; omega⟩
  have b2 : b ≤ 2 * n := by
    have := sum_le_mul (b := 2) (xs := s0) fun y hy => (hs0 y hy).2
    omega
  have hk : Ld n (b : Int) (sortD s0) := ⟨by rw [sortD_len, al], fun x hx => (hs0 x (sortD_mem.mp hx)).1, by rw [sortD_sum, hb], sortD_pw s0⟩
  have k2 : ∀ x, x ∈ sortD s0 → x ≤ 2 := fun x hx => (hs0 x (sortD_mem.mp hx)).2
  have so := opSortedR_s (ns := s0)
  -- the rows of draws
  have er := rows_ok (xs := (List.range n).map fun i : Nat => PyData.int (i : Int)) (m := kk) (by rw [List.length_map, List.length_range]; omega) (by omega) (by
    rw [List.length_map, List.length_range]
    intro j hj
    have := Nat.pow_le_pow_right (show 0 < n by omega) hj
    omega)
  rw [rowsN_map (fun i : Nat => PyData.int (i : Int)), List.map_map] at er
  have er : _ = RF.ok (.d (.list ((rowsN (List.range n) kk).map natsD))) [] := er
  have lr := opListRg_n (n := n) (by omega)
  have lr : opListRg (.d (.int (n : Nat))) = some (.new (.l ((List.range n).map fun i : Nat => PyData.int (i : Int)))) := by
    rw [lr, List.map_map]
    rfl
  have Dl : (rowsN (List.range n) kk).length = n ^ kk := by rw [rowsN_len, List.length_range]
  have Dpos : 1 ≤ n ^ kk := Nat.pow_pos (by omega)
  have ec1 := counts_ok (last := last) (m := m) DR al lD (by omega) (by omega) (by
    rw [Dl]
    intro j hj
    have := Nat.pow_le_pow_right Dpos hj
    omega)
  have cm1 := fun i => (cm_ok hk k2 DR.ulen RD.pos RD.s1 (show (usD n (rowsN (List.range n) kk)).sum.natAbs < 2 ^ 10 by have := RD.s1; omega) i).sw.nd
  have L1 := like_counts (n := n) (b := b + m) (m := m) (last := last) DR al RD.pos cm1
  obtain ⟨ds1, ea1, er1⟩ := check_ok Fm RD hk k2 DR.ulen sD n1 n6 b2 m5 L1
  clear cm1 L1 lD Dl Dpos DR RD
  have al0 := alone_ok (k := sortD s0)
  -- the sets
  obtain ⟨g, p4, e4, g0, g1, hp4⟩ := dB [] (if 4 < (n : Int) then 4 else (n : Int)) hp3 (by omega) (by split <;> omega) (by split <;> omega)
  obtain ⟨fw, hfw⟩ : ∃ fw : Nat, 1 + g = (fw : Int) := ⟨(1 + g).toNat, by omega⟩
  have f1 : 1 ≤ fw := by omega
  have f4 : fw ≤ 4 ∧ fw ≤ n := by
    by_cases z : 4 < (n : Int)
    · rw [if_pos z] at g1
      omega
    · rw [if_neg z] at g1
      omega
  obtain ⟨DU, ⟨rlU, eUn, RU⟩, _⟩ := dr_sets n1 n6 f1 f4.1 f4.2
  obtain ⟨sU, cU1, cU2, lU⟩ := of_decide_eq_true (List.all_eq_true.mp (List.all_eq_true.mp tabSU (n - 1) (List.mem_range.mpr (by omega))) (fw - 1) (List.mem_range.mpr (by omega)))
  rw [show n - 1 + 1 = n by omega, show fw - 1 + 1 = fw by omega] at sU cU1 cU2 lU
  have lU := fun d hd => of_decide_eq_true (List.all_eq_true.mp lU d hd)
  have es := sets_ok n1 n6 f1 f4.1 f4.2
  obtain ⟨m2, ef2, m2m, m2p⟩ := few_ok (n := (csN fw (List.range n)).length) (m := m) cU1 (by omega) (by omega)
  have ec2 := counts_ok (last := last) (m := m2) DU al lU (by omega) (by omega) (by
    intro j hj
    have := Nat.pow_le_pow_right cU1 hj
    omega)
  have cm2 := fun i => (cm_ok hk k2 DU.ulen RU.pos RU.s1 (show (usD n (csN fw (List.range n))).sum.natAbs < 2 ^ 10 by have := RU.s1; omega) i).sw.nd
  have L2 := like_counts (n := n) (b := b + m2) (m := m2) (last := last) DU al RU.pos cm2
  obtain ⟨ds2, ea2, er2⟩ := check_ok (Fm.le m2m) RU hk k2 DU.ulen sU n1 n6 b2 (by omega) L2
  clear cm2 L2 lU DU RU
  -- the weights
  obtain ⟨m3, ef3, m3m, m3p⟩ := few_ok (n := n) (m := m2) n1 (by omega) (by omega)
  obtain ⟨ws, p5, e5, ⟨wl, wb, ws1⟩, hp5⟩ := weightsR_ok [] hp4 (by omega) n1 (by omega)
  obtain ⟨rlW, eRu, RW⟩ := ruleW_ok (ws := ws) (by omega) (fun w hw => ⟨(wb w hw).1, by have := (wb w hw).2; omega⟩) ws1
  have wsum : ws.sum ≤ 1000 := by
    have := sum_le_mul (b := 80) (xs := ws) fun y hy => (wb y hy).2
    omega
  have ec3 := ranks_ok (m := m3) wl hk.len (fun w hw => ⟨(wb w hw).1, by have := (wb w hw).2; omega⟩) (by omega) (by omega) (by
    intro j hj
    have := Nat.pow_le_pow_right (show 0 < n by omega) hj
    omega)
  have cm3 := fun i => (cm_ok hk k2 wl (fun w hw => (wb w hw).1) ws1 (show ws.sum.natAbs < 2 ^ 10 by omega) i).sw.nd
  have L3 := like_ranks (n := n) (b := b + m3) (m := m3) wl (fun w hw => (wb w hw).1) cm3
  obtain ⟨ds3, ea3, er3⟩ := check_ok (Fm.le (by omega)) RW hk k2 wl wsum n1 n6 b2 (by omega) L3
  clear cm3 L3
  -- all as data
  obtain ⟨S7, h7⟩ : ∃ z, PyData.list (s0.map PyData.int) = z := ⟨_, rfl⟩
  have so2 : opTuple (.d (.list ((sortD s0).map PyData.int))) = some (.d (ldD (sortD s0))) := by
    unfold ldD
    generalize (sortD s0).map PyData.int = z
    simp
  obtain ⟨S8, h8⟩ : ∃ z, ldD (sortD s0) = z := ⟨_, rfl⟩
  obtain ⟨RW1, hr1⟩ : ∃ z, [rowD (sortD s0) (shD 1 1)] = z := ⟨_, rfl⟩
  obtain ⟨SX, hSX⟩ : ∃ z, (sortD s0).map PyData.int = z := ⟨_, rfl⟩
  obtain ⟨D9, h9⟩ : ∃ z, (rowsN (List.range n) kk).map natsD = z := ⟨_, rfl⟩
  obtain ⟨D11, h11⟩ : ∃ z, (csN fw (List.range n)).map natsD = z := ⟨_, rfl⟩
  obtain ⟨A1, hA1⟩ : ∃ z, fiD (accL ((rowsN (rowsN (List.range n) kk) m).map fun row => (sortD (foldS last s0 row), (1 : Int)))) = z := ⟨_, rfl⟩
  obtain ⟨A2, hA2⟩ : ∃ z, fiD (accL ((rowsN (csN fw (List.range n)) m2).map fun row => (sortD (foldS last s0 row), (1 : Int)))) = z := ⟨_, rfl⟩
  obtain ⟨A3, hA3⟩ : ∃ z, fiD (accL ((rowsN (List.range n) m3).flatMap (evR ws (sortD s0)))) = z := ⟨_, rfl⟩
  obtain ⟨W12, h12⟩ : ∃ z, PyData.list (ws.map PyData.int) = z := ⟨_, rfl⟩
  have ol11 : opLen (.d (.list D11)) = some (.d (.int (((csN fw (List.range n)).length : Nat) : Int))) := by rw [← h11, opLen_l, List.length_map]
  obtain ⟨N11, hN11⟩ : ∃ z : Int, (((csN fw (List.range n)).length : Nat) : Int) = z := ⟨_, rfl⟩
  rw [hN11] at ol11 ef2
  rw [h7, hA1] at ec1
  rw [h9] at er ec1
  rw [h7, h11, hA2] at ec2
  rw [h8, h12, hA3] at ec3
  rw [hA1] at er1
  rw [hA2] at er2
  rw [hA3] at er3
  rw [h8] at so2 al0
  rw [hr1] at al0 ea1 ea2 ea3
  rw [hSX] at so so2
  rw [h11] at es
  rw [h7] at so
  rw [h12] at eRu
  obtain ⟨P1, hP1⟩ : ∃ z, PyData.tuple rlD = z := ⟨_, rfl⟩
  obtain ⟨P2, hP2⟩ : ∃ z, PyData.tuple rlU = z := ⟨_, rfl⟩
  obtain ⟨P3, hP3⟩ : ∃ z, PyData.tuple rlW = z := ⟨_, rfl⟩
  rw [hP1] at eDr ea1
  rw [hP2] at eUn ea2
  rw [hP3] at eRu ea3
  have mn : opMin2 (.d (.int (n : Nat))) (.d (.int 4)) = some (.d (.int (if 4 < (n : Int) then 4 else (n : Int)))) := rfl
  have oi : opEq (.d (.int v)) (.d (.int 1)) = some (.d (.bool last)) := opEq_i
  let d7 : Sl := .d S7
  let d8 : Sl := .d S8
  let d9 : Sl := .d (.list D9)
  refine st (s1 := ST d2 d3 d4 (DI m) d6 d7 .u .u .u .u .u [p3]) (by
    simp only [ST, d7, ← h7] at elc ⊢
    generalize s0.map PyData.int = z at *
    simp [elc]
    exact .rfl) ?_
  clear elc
  refine st (s1 := ST d2 d3 d4 (DI m) d6 d7 d8 .u .u .u .u [p3]) (by simp [ST, d7, so, so2]; exact .rfl) ?_
  refine st (s1 := ST d2 d3 d4 (DI m) d6 d7 d8 d9 .u .u .u [p3]) (by
    generalize (List.range n).map (fun i : Nat => PyData.int (i : Int)) = z2 at *
    generalize f__law_rows = fr at *
    simp [ST, d3, d4, lr, er]
    exact .rfl) ?_
  have ck1 := cLk_t (c := cCallP f__law_counts (lCons (cVar 7) (lCons (cVar 9) (lCons (cVar 5) (lCons (cVar 6) lNil))))) (s := ST d2 d3 d4 (DI m) d6 d7 d8 d9 .u .u .u [p3]) (s1 := ST d2 d3 d4 (DI m) d6 d7 d8 d9 .u .u .u [p3]) (F := A1) (by simp [ST, d7, d9, DI, d6, ec1])
  refine w_sif (x := false) (s1 := ST d2 d3 d4 (DI m) d6 d7 d8 d9 .u .u .u [p3]) (by
    simp only [ST] at ck1 ⊢
    simp [d3, d4, d8, DI, eDr, al0, ea1, ck1, er1]
    exact .rfl) (fun z => nomatch z) fun _ => w_nxS ?_
  let d10 : Sl := .d (.int (fw : Nat))
  refine st (s1 := ST d2 d3 d4 (DI m) d6 d7 d8 d9 d10 .u .u [p4]) (by
    generalize (if 4 < (n : Int) then 4 else (n : Int)) = q at *
    simp [ST, d3, mn, e4, hfw, -opMin2_i]
    exact .rfl) ?_
  let d11 : Sl := .d (.list D11)
  refine st (s1 := ST d2 d3 d4 (DI m) d6 d7 d8 d9 d10 d11 .u [p4]) (by simp [ST, d3, d10, es]; exact .rfl) ?_
  refine st (s1 := ST d2 d3 d4 (DI m2) d6 d7 d8 d9 d10 d11 .u [p4]) (by simp [ST, d11, DI, ol11, ef2]; exact .rfl) ?_
  have ck2 := cLk_t (c := cCallP f__law_counts (lCons (cVar 7) (lCons (cVar 11) (lCons (cVar 5) (lCons (cVar 6) lNil))))) (s := ST d2 d3 d4 (DI m2) d6 d7 d8 d9 d10 d11 .u [p4]) (s1 := ST d2 d3 d4 (DI m2) d6 d7 d8 d9 d10 d11 .u [p4]) (F := A2) (by simp [ST, d7, d11, DI, d6, ec2])
  refine w_sif (x := false) (s1 := ST d2 d3 d4 (DI m2) d6 d7 d8 d9 d10 d11 .u [p4]) (by
    simp only [ST] at ck2 ⊢
    simp [d3, d10, d8, DI, eUn, al0, ea2, ck2, er2]
    exact .rfl) (fun z => nomatch z) fun _ => w_nxS ?_
  refine st (s1 := ST d2 d3 d4 (DI m3) d6 d7 d8 d9 d10 d11 .u [p4]) (by simp [ST, d3, DI, ef3]; exact .rfl) ?_
  let d12 : Sl := .d W12
  refine st (s1 := ST d2 d3 d4 (DI m3) d6 d7 d8 d9 d10 d11 d12 [p5]) (by
    simp only [d12, ← h12]
    generalize ws.map PyData.int = z at *
    simp [ST, d3, e5]
    exact .rfl) ?_
  have ck3 := cLk_t (c := cCallP f__law_by_ranks (lCons (cVar 8) (lCons (cVar 12) (lCons (cVar 5) lNil)))) (s := ST d2 d3 d4 (DI m3) d6 d7 d8 d9 d10 d11 d12 [p5]) (s1 := ST d2 d3 d4 (DI m3) d6 d7 d8 d9 d10 d11 d12 [p5]) (F := A3) (by simp [ST, d8, d12, DI, ec3])
  exact w_ret (x := .d (.bool true)) (s1 := ST d2 d3 d4 (DI m3) d6 d7 d8 d9 d10 d11 d12 [p5]) (by
    simp only [ST] at ck3 ⊢
    simp [d8, d12, DI, eRu, al0, ea3, ck3, er3]
    exact .rfl) (ok_d ⟨rfl, by simp [ST]⟩)
end Vm
namespace Vm
open PySem L2 PySem.Spec PyProof.Rows
def topS (i : Nat) : Stmt := PySem.Challenge.pw_emptierbox_k22_whole_all_rows_of_draws.main.body.getD i (.Pass ⟨0, 0, 0, 0⟩)
abbrev s_measure : Stmt := topS 6
abbrev N_measure : List Str := ["a", "b"]
theorem sc_measure : FnScope N_measure ["a", "b"] (defScope s_measure) := ⟨rfl, rfl, rfl, by decide +kernel, rfl, by decide +kernel, by decide +kernel⟩
abbrev s_share : Stmt := topS 7
abbrev N_share : List Str := ["top", "bottom", "common"]
theorem sc_share : FnScope N_share ["top", "bottom"] (defScope s_share) := ⟨rfl, rfl, rfl, by decide +kernel, rfl, by decide +kernel, by decide +kernel⟩
abbrev s_plus : Stmt := topS 8
abbrev N_plus : List Str := ["a", "b"]
theorem sc_plus : FnScope N_plus ["a", "b"] (defScope s_plus) := ⟨rfl, rfl, rfl, by decide +kernel, rfl, by decide +kernel, by decide +kernel⟩
abbrev s_minus : Stmt := topS 9
abbrev N_minus : List Str := ["a", "b"]
theorem sc_minus : FnScope N_minus ["a", "b"] (defScope s_minus) := ⟨rfl, rfl, rfl, by decide +kernel, rfl, by decide +kernel, by decide +kernel⟩
abbrev s_times : Stmt := topS 10
abbrev N_times : List Str := ["a", "b"]
theorem sc_times : FnScope N_times ["a", "b"] (defScope s_times) := ⟨rfl, rfl, rfl, by decide +kernel, rfl, by decide +kernel, by decide +kernel⟩
abbrev s_total : Stmt := topS 11
abbrev N_total : List Str := ["some", "found", "one"]
theorem sc_total : FnScope N_total ["some"] (defScope s_total) := ⟨rfl, rfl, rfl, by decide +kernel, rfl, by decide +kernel, by decide +kernel⟩
abbrev s_sorted_load : Stmt := topS 13
abbrev N_sorted_load : List Str := ["numbers"]
theorem sc_sorted_load : FnScope N_sorted_load ["numbers"] (defScope s_sorted_load) := ⟨rfl, rfl, rfl, by decide +kernel, rfl, by decide +kernel, by decide +kernel⟩
abbrev s_changed_at : Stmt := topS 14
abbrev N_changed_at : List Str := ["load", "rank", "more", "numbers"]
theorem sc_changed_at : FnScope N_changed_at ["load", "rank", "more"] (defScope s_changed_at) := ⟨rfl, rfl, rfl, by decide +kernel, rfl, by decide +kernel, by decide +kernel⟩
abbrev s_put_at : Stmt := topS 15
abbrev N_put_at : List Str := ["load", "rank"]
theorem sc_put_at : FnScope N_put_at ["load", "rank"] (defScope s_put_at) := ⟨rfl, rfl, rfl, by decide +kernel, rfl, by decide +kernel, by decide +kernel⟩
abbrev s_alone : Stmt := topS 18
abbrev N_alone : List Str := ["load"]
theorem sc_alone : FnScope N_alone ["load"] (defScope s_alone) := ⟨rfl, rfl, rfl, by decide +kernel, rfl, by decide +kernel, by decide +kernel⟩
abbrev s_gathered : Stmt := topS 19
abbrev N_gathered : List Str := ["found", "load"]
theorem sc_gathered : FnScope N_gathered ["found"] (defScope s_gathered) := ⟨rfl, rfl, rfl, by decide +kernel, rfl, by decide +kernel, by decide +kernel⟩
abbrev s_need_alike : Stmt := topS 20
abbrev N_need_alike : List Str := ["rule", "spread"]
theorem sc_need_alike : FnScope N_need_alike ["rule", "spread"] (defScope s_need_alike) := ⟨rfl, rfl, rfl, by decide +kernel, rfl, by decide +kernel, by decide +kernel⟩
abbrev s_put_freely : Stmt := topS 21
abbrev N_put_freely : List Str := ["rule", "spread", "found", "load", "part", "rank", "one"]
theorem sc_put_freely : FnScope N_put_freely ["rule", "spread"] (defScope s_put_freely) := ⟨rfl, rfl, rfl, by decide +kernel, rfl, by decide +kernel, by decide +kernel⟩
abbrev s_put : Stmt := topS 22
abbrev N_put : List Str := ["rule", "spread", "found"]
theorem sc_put : FnScope N_put ["rule", "spread"] (defScope s_put) := ⟨rfl, rfl, rfl, by decide +kernel, rfl, by decide +kernel, by decide +kernel⟩
abbrev s_after : Stmt := topS 23
abbrev N_after : List Str := ["rule", "spread", "many", "found", "k"]
theorem sc_after : FnScope N_after ["rule", "spread", "many"] (defScope s_after) := ⟨rfl, rfl, rfl, by decide +kernel, rfl, by decide +kernel, by decide +kernel⟩
abbrev s_worth : Stmt := topS 25
abbrev N_worth : List Str := ["load", "word", "number"]
theorem sc_worth : FnScope N_worth ["load", "word"] (defScope s_worth) := ⟨rfl, rfl, rfl, by decide +kernel, rfl, by decide +kernel, by decide +kernel⟩
abbrev s_mean : Stmt := topS 26
abbrev N_mean : List Str := ["spread", "word", "load", "part"]
theorem sc_mean : FnScope N_mean ["spread", "word"] (defScope s_mean) := ⟨rfl, rfl, rfl, by decide +kernel, rfl, by decide +kernel, by decide +kernel⟩
abbrev s_by_sums : Stmt := topS 28
abbrev N_by_sums : List Str := ["sums", "found", "ahead", "one"]
theorem sc_by_sums : FnScope N_by_sums ["sums"] (defScope s_by_sums) := ⟨rfl, rfl, rfl, by decide +kernel, rfl, by decide +kernel, by decide +kernel⟩
abbrev s_power : Stmt := topS 29
abbrev N_power : List Str := ["number", "often", "found", "k"]
theorem sc_power : FnScope N_power ["number", "often"] (defScope s_power) := ⟨rfl, rfl, rfl, by decide +kernel, rfl, by decide +kernel, by decide +kernel⟩
abbrev s_sets_of : Stmt := topS 30
abbrev N_sets_of : List Str := ["n", "many", "found", "k"]
theorem sc_sets_of : FnScope N_sets_of ["n", "many"] (defScope s_sets_of) := ⟨rfl, rfl, rfl, by decide +kernel, rfl, by decide +kernel, by decide +kernel⟩
abbrev s_drawn : Stmt := topS 31
abbrev N_drawn : List Str := ["n", "many", "rank"]
theorem sc_drawn : FnScope N_drawn ["n", "many"] (defScope s_drawn) := ⟨rfl, rfl, rfl, by decide +kernel, rfl, by decide +kernel, by decide +kernel⟩
abbrev s_unlike : Stmt := topS 32
abbrev N_unlike : List Str := ["n", "many", "rank"]
theorem sc_unlike : FnScope N_unlike ["n", "many"] (defScope s_unlike) := ⟨rfl, rfl, rfl, by decide +kernel, rfl, by decide +kernel, by decide +kernel⟩
abbrev s__law_pen : Stmt := topS 34
abbrev N__law_pen : List Str := ["_law_script"]
theorem sc__law_pen : FnScope N__law_pen ["_law_script"] (defScope s__law_pen) := ⟨rfl, rfl, rfl, by decide +kernel, rfl, by decide +kernel, by decide +kernel⟩
abbrev s__law_draw : Stmt := topS 35
abbrev N__law_draw : List Str := ["_law_pen_here", "_law_many", "_law_digit", "_law_at", "_law_cell", "_law_number"]
theorem sc__law_draw : FnScope N__law_draw ["_law_pen_here", "_law_many"] (defScope s__law_draw) := ⟨rfl, rfl, rfl, by decide +kernel, rfl, by decide +kernel, by decide +kernel⟩
abbrev s__law_measure : Stmt := topS 36
abbrev N__law_measure : List Str := ["_law_a", "_law_b"]
theorem sc__law_measure : FnScope N__law_measure ["_law_a", "_law_b"] (defScope s__law_measure) := ⟨rfl, rfl, rfl, by decide +kernel, rfl, by decide +kernel, by decide +kernel⟩
abbrev s__law_lowest : Stmt := topS 37
abbrev N__law_lowest : List Str := ["_law_top", "_law_bottom", "_law_by"]
theorem sc__law_lowest : FnScope N__law_lowest ["_law_top", "_law_bottom"] (defScope s__law_lowest) := ⟨rfl, rfl, rfl, by decide +kernel, rfl, by decide +kernel, by decide +kernel⟩
abbrev s__law_weights : Stmt := topS 38
abbrev N__law_weights : List Str := ["_law_pen_here", "_law_n", "_law_way", "_law_some", "_law_at", "_law_rank"]
theorem sc__law_weights : FnScope N__law_weights ["_law_pen_here", "_law_n"] (defScope s__law_weights) := ⟨rfl, rfl, rfl, by decide +kernel, rfl, by decide +kernel, by decide +kernel⟩
abbrev s__law_rule : Stmt := topS 39
abbrev N__law_rule : List Str := ["_law_weights_here", "_law_one"]
theorem sc__law_rule : FnScope N__law_rule ["_law_weights_here"] (defScope s__law_rule) := ⟨rfl, rfl, rfl, by decide +kernel, rfl, by decide +kernel, by decide +kernel⟩
abbrev s__law_spread : Stmt := topS 42
abbrev N__law_spread : List Str := ["_law_found", "_law_whole", "_law_load_here"]
theorem sc__law_spread : FnScope N__law_spread ["_law_found"] (defScope s__law_spread) := ⟨rfl, rfl, rfl, by decide +kernel, rfl, by decide +kernel, by decide +kernel⟩
abbrev s__law_rows : Stmt := topS 43
abbrev N__law_rows : List Str := ["_law_some", "_law_many", "_law_found", "_law_k", "_law_longer", "_law_row", "_law_one"]
theorem sc__law_rows : FnScope N__law_rows ["_law_some", "_law_many"] (defScope s__law_rows) := ⟨rfl, rfl, rfl, by decide +kernel, rfl, by decide +kernel, by decide +kernel⟩
abbrev s__law_sets : Stmt := topS 44
abbrev N__law_sets : List Str := ["_law_n", "_law_many", "_law_row"]
theorem sc__law_sets : FnScope N__law_sets ["_law_n", "_law_many"] (defScope s__law_sets) := ⟨rfl, rfl, rfl, by decide +kernel, rfl, by decide +kernel, by decide +kernel⟩
abbrev s__law_goal : Stmt := topS 45
abbrev N__law_goal : List Str := ["_law_stand", "_law_draw_here", "_law_last", "_law_some", "_law_box", "_law_one"]
theorem sc__law_goal : FnScope N__law_goal ["_law_stand", "_law_draw_here", "_law_last"] (defScope s__law_goal) := ⟨rfl, rfl, rfl, by decide +kernel, rfl, by decide +kernel, by decide +kernel⟩
abbrev s__law_counts : Stmt := topS 46
abbrev N__law_counts : List Str := ["_law_stand", "_law_draws", "_law_many", "_law_last", "_law_found", "_law_row", "_law_here", "_law_draw_here", "_law_box", "_law_load_here"]
theorem sc__law_counts : FnScope N__law_counts ["_law_stand", "_law_draws", "_law_many", "_law_last"] (defScope s__law_counts) := ⟨rfl, rfl, rfl, by decide +kernel, rfl, by decide +kernel, by decide +kernel⟩
abbrev s__law_by_ranks : Stmt := topS 47
abbrev N__law_by_ranks : List Str := ["_law_load_here", "_law_weights_here", "_law_many", "_law_found", "_law_row", "_law_here", "_law_often", "_law_rank"]
theorem sc__law_by_ranks : FnScope N__law_by_ranks ["_law_load_here", "_law_weights_here", "_law_many"] (defScope s__law_by_ranks) := ⟨rfl, rfl, rfl, by decide +kernel, rfl, by decide +kernel, by decide +kernel⟩
abbrev s__law_few : Stmt := topS 48
abbrev N__law_few : List Str := ["_law_n", "_law_many", "_law_rows_here", "_law_k"]
theorem sc__law_few : FnScope N__law_few ["_law_n", "_law_many"] (defScope s__law_few) := ⟨rfl, rfl, rfl, by decide +kernel, rfl, by decide +kernel, by decide +kernel⟩
abbrev s__law_right : Stmt := topS 49
abbrev N__law_right : List Str := ["_law_told", "_law_found", "_law_tops", "_law_load_here"]
theorem sc__law_right : FnScope N__law_right ["_law_told", "_law_found"] (defScope s__law_right) := ⟨rfl, rfl, rfl, by decide +kernel, rfl, by decide +kernel, by decide +kernel⟩
abbrev s_law : Stmt := topS 50
abbrev N_law : List Str := ["_law_script", "_law_pen_here", "_law_sizes", "_law_n", "_law_many", "_law_balls", "_law_last", "_law_stand", "_law_load_here", "_law_draws", "_law_few_here", "_law_sets_here", "_law_weights_here", "_law_box"]
theorem sc_law : FnScope N_law ["_law_script"] (defScope s_law) := ⟨rfl, rfl, rfl, by decide +kernel, rfl, by decide +kernel, by decide +kernel⟩
/-- what the top leaves beside the defs -/
structure Txt (K : Fg) (mg : Str → Option Value) (ec : EC) : Prop where
  z_abs : mg "abs" = none
  z_enumerate : mg "enumerate" = none
  z_int : mg "int" = none
  z_len : mg "len" = none
  z_list : mg "list" = none
  z_min : mg "min" = none
  z_range : mg "range" = none
  z_repr : mg "repr" = none
  z_set : mg "set" = none
  z_sorted : mg "sorted" = none
  z_sum : mg "sum" = none
  z_tuple : mg "tuple" = none
  x_NoShare : ExcF K mg ec "NoShare" "NoShare"
  x_TooMany : ExcF K mg ec "TooMany" "TooMany"
  x_Unlike : ExcF K mg ec "Unlike" "Unlike"
  k_MOST_LOADS : ∃ t, mg "MOST_LOADS" = some (.int 60 t)
  w : Bas ec.w
section
variable {P : Program} {wo : World} {K : Fg} {mg : Str → Option Value} {base : Heap} {ec : EC}
theorem ok_measure (T : Txt K mg ec) (Df : DefF K mg "measure" s_measure ["a", "b"])   : Cal P wo K mg base ec "measure" ["a", "b"] f_measure 1 :=
  Df.cal fun F => fn_ok (k := 0) F sc_measure c_measure fun cdv A outer s H E hr tk hp => by
    have nd := sc_measure.nd
    have hu := hr.units
    have hu1 := hu_of hr
    have hw := T.w
    exact (b_cons (s_while (fun _ => 1000000) hp (t_cmp (OpR.or op_gt (op_gtV hu)) s_ord (e_var 1) e_int)
 (b_one (s_par 0 1 nd (e_var 1) (e_bin op_modN s_mod (e_var 0) (e_var 1)) (by decide))))
 (b_one (s_ret (e_var 0))))
theorem ok_share (T : Txt K mg ec) (Df : DefF K mg "share" s_share ["top", "bottom"])  (C_measure : Cal P wo K mg base ec "measure" ["a", "b"] f_measure 1) : Cal P wo K mg base ec "share" ["top", "bottom"] f_share 2 :=
  Df.cal fun F => fn_ok (k := 1) F sc_share c_share fun cdv A outer s H E hr tk hp => by
    have nd := sc_share.nd
    have hu := hr.units
    have hu1 := hu_of hr
    have hw := T.w
    exact (b_cons (s_if (t_cmp (op_eqV hu) s_eq (e_var 1) e_int)
 (b_one (s_raise T.x_NoShare tk))
 b_nil)
 (b_cons (s_set 2 nd (e_callP C_measure (hr.mono (by decide)) tk (l_cons (e_call1 call_abs s_abs T.z_abs PyProof.Rows.boot_abs (e_var 0)) (l_cons (e_call1 call_abs s_abs T.z_abs PyProof.Rows.boot_abs (e_var 1)) l_nil)) (ll_cons (ll_cons ll_nil))))
 (b_cons (s_if (t_cmp (OpR.or op_lt (op_ltV hu)) s_ord (e_var 1) e_int)
 (b_one (s_set 2 nd (e_bin op_sub s_sub e_int (e_var 2))))
 b_nil)
 (b_one (s_ret (e_tup (a_cons (e_bin op_fdivV s_div (e_var 0) (e_var 2)) (a_cons (e_bin op_fdivV s_div (e_var 1) (e_var 2)) a_nil)) (CLen.le (cl_cons (cl_cons cl_nil)) (by decide))))))))
theorem ok_plus (T : Txt K mg ec) (Df : DefF K mg "plus" s_plus ["a", "b"])  (C_share : Cal P wo K mg base ec "share" ["top", "bottom"] f_share 2) : Cal P wo K mg base ec "plus" ["a", "b"] f_plus 3 :=
  Df.cal fun F => fn_ok (k := 2) F sc_plus c_plus fun cdv A outer s H E hr tk hp => by
    have nd := sc_plus.nd
    have hu := hr.units
    have hu1 := hu_of hr
    have hw := T.w
    exact (b_one (s_ret (e_callP C_share (hr.mono (by decide)) tk (l_cons (e_bin or_add s_add (e_bin or_mul s_mulV (e_ixR ixr_V s_ix (e_var 0) e_int) (e_ixR ixr_V s_ix (e_var 1) e_int)) (e_bin or_mul s_mulV (e_ixR ixr_V s_ix (e_var 1) e_int) (e_ixR ixr_V s_ix (e_var 0) e_int))) (l_cons (e_bin or_mul s_mulV (e_ixR ixr_V s_ix (e_var 0) e_int) (e_ixR ixr_V s_ix (e_var 1) e_int)) l_nil)) (ll_cons (ll_cons ll_nil)))))
theorem ok_minus (T : Txt K mg ec) (Df : DefF K mg "minus" s_minus ["a", "b"])  (C_share : Cal P wo K mg base ec "share" ["top", "bottom"] f_share 2) : Cal P wo K mg base ec "minus" ["a", "b"] f_minus 3 :=
  Df.cal fun F => fn_ok (k := 2) F sc_minus c_minus fun cdv A outer s H E hr tk hp => by
    have nd := sc_minus.nd
    have hu := hr.units
    have hu1 := hu_of hr
    have hw := T.w
    exact (b_one (s_ret (e_callP C_share (hr.mono (by decide)) tk (l_cons (e_bin op_sub s_sub (e_bin or_mul s_mulV (e_ixR ixr_V s_ix (e_var 0) e_int) (e_ixR ixr_V s_ix (e_var 1) e_int)) (e_bin or_mul s_mulV (e_ixR ixr_V s_ix (e_var 1) e_int) (e_ixR ixr_V s_ix (e_var 0) e_int))) (l_cons (e_bin or_mul s_mulV (e_ixR ixr_V s_ix (e_var 0) e_int) (e_ixR ixr_V s_ix (e_var 1) e_int)) l_nil)) (ll_cons (ll_cons ll_nil)))))
theorem ok_times (T : Txt K mg ec) (Df : DefF K mg "times" s_times ["a", "b"])  (C_share : Cal P wo K mg base ec "share" ["top", "bottom"] f_share 2) : Cal P wo K mg base ec "times" ["a", "b"] f_times 3 :=
  Df.cal fun F => fn_ok (k := 2) F sc_times c_times fun cdv A outer s H E hr tk hp => by
    have nd := sc_times.nd
    have hu := hr.units
    have hu1 := hu_of hr
    have hw := T.w
    exact (b_one (s_ret (e_callP C_share (hr.mono (by decide)) tk (l_cons (e_bin or_mul s_mulV (e_ixR ixr_V s_ix (e_var 0) e_int) (e_ixR ixr_V s_ix (e_var 1) e_int)) (l_cons (e_bin or_mul s_mulV (e_ixR ixr_V s_ix (e_var 0) e_int) (e_ixR ixr_V s_ix (e_var 1) e_int)) l_nil)) (ll_cons (ll_cons ll_nil)))))
theorem ok_total (T : Txt K mg ec) (Df : DefF K mg "total" s_total ["some"])  (C_plus : Cal P wo K mg base ec "plus" ["a", "b"] f_plus 3) : Cal P wo K mg base ec "total" ["some"] f_total 4 :=
  Df.cal fun F => fn_ok (k := 3) F sc_total c_total fun cdv A outer s H E hr tk hp => by
    have nd := sc_total.nd
    have hu := hr.units
    have hu1 := hu_of hr
    have hw := T.w
    exact (b_cons (s_set 1 nd (e_tup (a_cons e_int (a_cons e_int a_nil)) (CLen.le (cl_cons (cl_cons cl_nil)) (by decide))))
 (b_cons (s_for (own := [2]) hp (i_seq (e_var 0)) (g_name 2 nd (by decide))
 (b_one (s_set 1 nd (e_callP C_plus (hr.mono (by decide)) tk (l_cons (e_var 1) (l_cons (e_var 2) l_nil)) (ll_cons (ll_cons ll_nil))))))
 (b_one (s_ret (e_var 1)))))
theorem ok_sorted_load (T : Txt K mg ec) (Df : DefF K mg "sorted_load" s_sorted_load ["numbers"])   : Cal P wo K mg base ec "sorted_load" ["numbers"] f_sorted_load 1 :=
  Df.cal fun F => fn_ok (k := 0) F sc_sorted_load c_sorted_load fun cdv A outer s H E hr tk hp => by
    have nd := sc_sorted_load.nd
    have hu := hr.units
    have hu1 := hu_of hr
    have hw := T.w
    exact (b_one (s_ret (e_callT1 call_tuple_of s_tuple T.z_tuple (by decide +kernel) (e_sortedR T.z_sorted (e_var 0)))))
theorem ok_changed_at (T : Txt K mg ec) (Df : DefF K mg "changed_at" s_changed_at ["load", "rank", "more"])  (C_sorted_load : Cal P wo K mg base ec "sorted_load" ["numbers"] f_sorted_load 1) : Cal P wo K mg base ec "changed_at" ["load", "rank", "more"] f_changed_at 2 :=
  Df.cal fun F => fn_ok (k := 1) F sc_changed_at c_changed_at fun cdv A outer s H E hr tk hp => by
    have nd := sc_changed_at.nd
    have hu := hr.units
    have hu1 := hu_of hr
    have hw := T.w
    exact (b_cons (s_setM 3 nd (e_callT1 call_list_of s_list T.z_list (by decide +kernel) (e_var 0)))
 (b_cons (s_putL (e_var 3) (e_var 1) (e_bin or_add s_add (e_ixR ixr_V s_ix (e_var 3) (e_var 1)) (e_var 2)))
 (b_one (s_ret (e_callP C_sorted_load (hr.mono (by decide)) tk (l_cons (e_fz 3) l_nil) (ll_cons ll_nil))))))
theorem ok_put_at (T : Txt K mg ec) (Df : DefF K mg "put_at" s_put_at ["load", "rank"])  (C_changed_at : Cal P wo K mg base ec "changed_at" ["load", "rank", "more"] f_changed_at 2) : Cal P wo K mg base ec "put_at" ["load", "rank"] f_put_at 3 :=
  Df.cal fun F => fn_ok (k := 2) F sc_put_at c_put_at fun cdv A outer s H E hr tk hp => by
    have nd := sc_put_at.nd
    have hu := hr.units
    have hu1 := hu_of hr
    have hw := T.w
    exact (b_one (s_ret (e_callP C_changed_at (hr.mono (by decide)) tk (l_cons (e_var 0) (l_cons (e_var 1) (l_cons e_int l_nil))) (ll_cons (ll_cons (ll_cons ll_nil))))))
theorem ok_alone (T : Txt K mg ec) (Df : DefF K mg "alone" s_alone ["load"])   : Cal P wo K mg base ec "alone" ["load"] f_alone 1 :=
  Df.cal fun F => fn_ok (k := 0) F sc_alone c_alone fun cdv A outer s H E hr tk hp => by
    have nd := sc_alone.nd
    have hu := hr.units
    have hu1 := hu_of hr
    have hw := T.w
    exact (b_one (s_ret (e_lst (a_cons (e_tup (a_cons (e_var 0) (a_cons (e_tup (a_cons e_int (a_cons e_int a_nil)) (CLen.le (cl_cons (cl_cons cl_nil)) (by decide))) a_nil)) (CLen.le (cl_cons (cl_cons cl_nil)) (by decide))) a_nil) (CLen.le (cl_cons cl_nil) (by decide)))))
theorem ok_gathered (T : Txt K mg ec) (Df : DefF K mg "gathered" s_gathered ["found"])  (C_total : Cal P wo K mg base ec "total" ["some"] f_total 4) : Cal P wo K mg base ec "gathered" ["found"] f_gathered 5 :=
  Df.cal fun F => fn_ok (k := 4) F sc_gathered c_gathered fun cdv A outer s H E hr tk hp => by
    have nd := sc_gathered.nd
    have hu := hr.units
    have hu1 := hu_of hr
    have hw := T.w
    exact (b_one (s_ret (e_lc (own := [("load", 1)]) nd (blkOk_by (own := [("load", 1)]) (N := N_gathered) (sc := defScope s_gathered) (by decide +kernel)) (i_seq (e_sortedX hu T.z_sorted (e_var 0))) (fun _ _ _ _ _ => (g_name 1 nd (by decide))) (fun _ _ _ _ _ => ts_nil) (fun _ _ _ _ _ => (e_tup (a_cons (e_var 1) (a_cons (e_callP C_total (hr.mono (by decide)) takes0 (l_cons (e_item hu1 (e_var 0) (e_var 1)) l_nil) (ll_cons ll_nil)) a_nil)) (CLen.le (cl_cons (cl_cons cl_nil)) (by decide)))))))
theorem ok_need_alike (T : Txt K mg ec) (Df : DefF K mg "need_alike" s_need_alike ["rule", "spread"])   : Cal P wo K mg base ec "need_alike" ["rule", "spread"] f_need_alike 1 :=
  Df.cal fun F => fn_ok (k := 0) F sc_need_alike c_need_alike fun cdv A outer s H E hr tk hp => by
    have nd := sc_need_alike.nd
    have hu := hr.units
    have hu1 := hu_of hr
    have hw := T.w
    exact (b_one (s_if (t_cmp (op_neV hu) s_ne (e_call1 call_lenV s_len T.z_len PySem.boot_len (e_var 0)) (e_call1 call_lenV s_len T.z_len PySem.boot_len (e_ixR ixr_V s_ix (e_ixR ixr_V s_ix (e_var 1) e_int) e_int)))
 (b_one (s_raise T.x_Unlike tk))
 b_nil))
theorem ok_put_freely (T : Txt K mg ec) (Df : DefF K mg "put_freely" s_put_freely ["rule", "spread"])  (C_times : Cal P wo K mg base ec "times" ["a", "b"] f_times 3) (C_put_at : Cal P wo K mg base ec "put_at" ["load", "rank"] f_put_at 3) (C_gathered : Cal P wo K mg base ec "gathered" ["found"] f_gathered 5) : Cal P wo K mg base ec "put_freely" ["rule", "spread"] f_put_freely 6 :=
  Df.cal fun F => fn_ok (k := 5) F sc_put_freely c_put_freely fun cdv A outer s H E hr tk hp => by
    have nd := sc_put_freely.nd
    have hu := hr.units
    have hu1 := hu_of hr
    have hw := T.w
    exact (b_cons (s_setM 2 nd e_newR)
 (b_cons (s_for (own := [3, 4]) hp (i_seq (e_var 1)) (g_tup (gs_cons (g_name 3 nd (by decide)) (gs_cons (g_name 4 nd (by decide)) gs_nil)))
 (b_one (s_for (own := [5, 6]) hp (i_enum (e_var 0) T.z_enumerate) (g_tup (gs_cons (g_name 5 nd (by decide)) (gs_cons (g_name 6 nd (by decide)) gs_nil)))
 (b_one (s_if (t_cmp (OpR.or op_gt (op_gtV hu)) s_ord (e_ixR ixr_V s_ix (e_var 6) e_int) e_int)
 (b_one (s_expr (e_appI (e_setd hu1 (e_var 2) (e_callP C_put_at (hr.mono (by decide)) tk (l_cons (e_var 3) (l_cons (e_var 5) l_nil)) (ll_cons (ll_cons ll_nil)))) (a_cons (e_callP C_times (hr.mono (by decide)) tk (l_cons (e_var 4) (l_cons (e_var 6) l_nil)) (ll_cons (ll_cons ll_nil))) a_nil))))
 b_nil)))))
 (b_one (s_ret (e_callP C_gathered (hr.mono (by decide)) tk (l_cons (e_fzR 2) l_nil) (ll_cons ll_nil))))))
theorem ok_put (T : Txt K mg ec) (Df : DefF K mg "put" s_put ["rule", "spread"])  (C_need_alike : Cal P wo K mg base ec "need_alike" ["rule", "spread"] f_need_alike 1) (C_put_freely : Cal P wo K mg base ec "put_freely" ["rule", "spread"] f_put_freely 6) : Cal P wo K mg base ec "put" ["rule", "spread"] f_put 7 :=
  Df.cal fun F => fn_ok (k := 6) F sc_put c_put fun cdv A outer s H E hr tk hp => by
    have nd := sc_put.nd
    have hu := hr.units
    have hu1 := hu_of hr
    have hw := T.w
    exact (b_cons (s_expr (e_callP C_need_alike (hr.mono (by decide)) tk (l_cons (e_var 0) (l_cons (e_var 1) l_nil)) (ll_cons (ll_cons ll_nil))))
 (b_cons (s_setM 2 nd (e_callP C_put_freely (hr.mono (by decide)) tk (l_cons (e_var 0) (l_cons (e_var 1) l_nil)) (ll_cons (ll_cons ll_nil))))
 (b_cons (s_if (t_cmp (OpR.or op_gt (op_gtV hu)) s_ord (e_call1 call_lenV s_len T.z_len PySem.boot_len (e_var 2)) (e_globI T.k_MOST_LOADS))
 (b_one (s_raise T.x_TooMany tk))
 b_nil)
 (b_one (s_ret (e_var 2))))))
theorem ok_after (T : Txt K mg ec) (Df : DefF K mg "after" s_after ["rule", "spread", "many"])  (C_need_alike : Cal P wo K mg base ec "need_alike" ["rule", "spread"] f_need_alike 1) (C_put : Cal P wo K mg base ec "put" ["rule", "spread"] f_put 7) : Cal P wo K mg base ec "after" ["rule", "spread", "many"] f_after 8 :=
  Df.cal fun F => fn_ok (k := 7) F sc_after c_after fun cdv A outer s H E hr tk hp => by
    have nd := sc_after.nd
    have hu := hr.units
    have hu1 := hu_of hr
    have hw := T.w
    exact (b_cons (s_expr (e_callP C_need_alike (hr.mono (by decide)) tk (l_cons (e_var 0) (l_cons (e_var 1) l_nil)) (ll_cons (ll_cons ll_nil))))
 (b_cons (s_setM 3 nd (e_callT1 call_list_of s_list T.z_list (by decide +kernel) (e_var 1)))
 (b_cons (s_for (own := [4]) hp (i_range1 (e_var 2) T.z_range) (g_name 4 nd (by decide))
 (b_one (s_setM 3 nd (e_callP C_put (hr.mono (by decide)) tk (l_cons (e_var 0) (l_cons (e_fz 3) l_nil)) (ll_cons (ll_cons ll_nil))))))
 (b_one (s_ret (e_var 3))))))
theorem ok_worth (T : Txt K mg ec) (Df : DefF K mg "worth" s_worth ["load", "word"])   : Cal P wo K mg base ec "worth" ["load", "word"] f_worth 1 :=
  Df.cal fun F => fn_ok (k := 0) F sc_worth c_worth fun cdv A outer s H E hr tk hp => by
    have nd := sc_worth.nd
    have hu := hr.units
    have hu1 := hu_of hr
    have hw := T.w
    exact (b_cons (s_if (t_cmp (op_eqV hu) s_eq (e_var 1) e_str)
 (b_one (s_ret (e_ixR ixr_V s_ix (e_var 0) e_int)))
 b_nil)
 (b_cons (s_if (t_cmp (op_eqV hu) s_eq (e_var 1) e_str)
 (b_one (s_ret (e_ixR ixr_V s_ix (e_var 0) (e_un un_neg s_neg e_int))))
 b_nil)
 (b_cons (s_if (t_cmp (op_eqV hu) s_eq (e_var 1) e_str)
 (b_one (s_ret (e_bin op_sub s_sub (e_ixR ixr_V s_ix (e_var 0) e_int) (e_ixR ixr_V s_ix (e_var 0) (e_un un_neg s_neg e_int)))))
 b_nil)
 (b_one (s_ret (e_call1 (call_sumV rfl) s_sum T.z_sum (by decide +kernel) (e_lc (own := [("number", 2)]) nd (blkOk_by (own := [("number", 2)]) (N := N_worth) (sc := defScope s_worth) (by decide +kernel)) (i_seq (e_var 0)) (fun _ _ _ _ _ => (g_name 2 nd (by decide))) (fun _ _ _ _ _ => ts_nil) (fun _ _ _ _ _ => (e_bin or_mul s_mulV (e_var 2) (e_var 2))))))))))
theorem ok_mean (T : Txt K mg ec) (Df : DefF K mg "mean" s_mean ["spread", "word"])  (C_times : Cal P wo K mg base ec "times" ["a", "b"] f_times 3) (C_total : Cal P wo K mg base ec "total" ["some"] f_total 4) (C_worth : Cal P wo K mg base ec "worth" ["load", "word"] f_worth 1) : Cal P wo K mg base ec "mean" ["spread", "word"] f_mean 5 :=
  Df.cal fun F => fn_ok (k := 4) F sc_mean c_mean fun cdv A outer s H E hr tk hp => by
    have nd := sc_mean.nd
    have hu := hr.units
    have hu1 := hu_of hr
    have hw := T.w
    exact (b_one (s_ret (e_callP C_total (hr.mono (by decide)) tk (l_cons (e_lc (own := [("load", 2), ("part", 3)]) nd (blkOk_by (own := [("load", 2), ("part", 3)]) (N := N_mean) (sc := defScope s_mean) (by decide +kernel)) (i_seq (e_var 0)) (fun _ _ _ _ _ => (g_tup (gs_cons (g_name 2 nd (by decide)) (gs_cons (g_name 3 nd (by decide)) gs_nil)))) (fun _ _ _ _ _ => ts_nil) (fun _ _ _ _ _ => (e_callP C_times (hr.mono (by decide)) takes0 (l_cons (e_var 3) (l_cons (e_tup (a_cons (e_callP C_worth (hr.mono (by decide)) takes0 (l_cons (e_var 2) (l_cons (e_var 1) l_nil)) (ll_cons (ll_cons ll_nil))) (a_cons e_int a_nil)) (CLen.le (cl_cons (cl_cons cl_nil)) (by decide))) l_nil)) (ll_cons (ll_cons ll_nil))))) l_nil) (ll_cons ll_nil))))
theorem ok_by_sums (T : Txt K mg ec) (Df : DefF K mg "by_sums" s_by_sums ["sums"])  (C_minus : Cal P wo K mg base ec "minus" ["a", "b"] f_minus 3) : Cal P wo K mg base ec "by_sums" ["sums"] f_by_sums 4 :=
  Df.cal fun F => fn_ok (k := 3) F sc_by_sums c_by_sums fun cdv A outer s H E hr tk hp => by
    have nd := sc_by_sums.nd
    have hu := hr.units
    have hu1 := hu_of hr
    have hw := T.w
    exact (b_cons (s_setM 1 nd (e_lst a_nil (CLen.le cl_nil (by decide))))
 (b_cons (s_set 2 nd (e_tup (a_cons e_int (a_cons e_int a_nil)) (CLen.le (cl_cons (cl_cons cl_nil)) (by decide))))
 (b_cons (s_for (own := [3]) hp (i_seq (e_var 0)) (g_name 3 nd (by decide))
 (b_cons (s_expr (e_append (e_var 1) (a_cons (e_callP C_minus (hr.mono (by decide)) tk (l_cons (e_var 3) (l_cons (e_var 2) l_nil)) (ll_cons (ll_cons ll_nil))) a_nil)))
 (b_one (s_set 2 nd (e_var 3)))))
 (b_one (s_ret (e_callT1 call_tuple_of s_tuple T.z_tuple (by decide +kernel) (e_var 1)))))))
theorem ok_power (T : Txt K mg ec) (Df : DefF K mg "power" s_power ["number", "often"])   : Cal P wo K mg base ec "power" ["number", "often"] f_power 1 :=
  Df.cal fun F => fn_ok (k := 0) F sc_power c_power fun cdv A outer s H E hr tk hp => by
    have nd := sc_power.nd
    have hu := hr.units
    have hu1 := hu_of hr
    have hw := T.w
    exact (b_cons (s_set 2 nd e_int)
 (b_cons (s_for (own := [3]) hp (i_range1 (e_var 1) T.z_range) (g_name 3 nd (by decide))
 (b_one (s_set 2 nd (e_bin or_mul s_mulV (e_var 2) (e_var 0)))))
 (b_one (s_ret (e_var 2)))))
theorem ok_sets_of (T : Txt K mg ec) (Df : DefF K mg "sets_of" s_sets_of ["n", "many"])   : Cal P wo K mg base ec "sets_of" ["n", "many"] f_sets_of 1 :=
  Df.cal fun F => fn_ok (k := 0) F sc_sets_of c_sets_of fun cdv A outer s H E hr tk hp => by
    have nd := sc_sets_of.nd
    have hu := hr.units
    have hu1 := hu_of hr
    have hw := T.w
    exact (b_cons (s_set 2 nd e_int)
 (b_cons (s_for (own := [3]) hp (i_range1 (e_var 1) T.z_range) (g_name 3 nd (by decide))
 (b_one (s_set 2 nd (e_bin op_fdivV s_div (e_bin or_mul s_mulV (e_var 2) (e_bin op_sub s_sub (e_var 0) (e_var 3))) (e_bin or_add s_add (e_var 3) e_int)))))
 (b_one (s_ret (e_var 2)))))
theorem ok_drawn (T : Txt K mg ec) (Df : DefF K mg "drawn" s_drawn ["n", "many"])  (C_share : Cal P wo K mg base ec "share" ["top", "bottom"] f_share 2) (C_by_sums : Cal P wo K mg base ec "by_sums" ["sums"] f_by_sums 4) (C_power : Cal P wo K mg base ec "power" ["number", "often"] f_power 1) : Cal P wo K mg base ec "drawn" ["n", "many"] f_drawn 5 :=
  Df.cal fun F => fn_ok (k := 4) F sc_drawn c_drawn fun cdv A outer s H E hr tk hp => by
    have nd := sc_drawn.nd
    have hu := hr.units
    have hu1 := hu_of hr
    have hw := T.w
    exact (b_one (s_ret (e_callP C_by_sums (hr.mono (by decide)) tk (l_cons (e_lc (own := [("rank", 2)]) nd (blkOk_by (own := [("rank", 2)]) (N := N_drawn) (sc := defScope s_drawn) (by decide +kernel)) (i_range1 (e_var 0) T.z_range) (fun _ _ _ _ _ => (g_name 2 nd (by decide))) (fun _ _ _ _ _ => ts_nil) (fun _ _ _ _ _ => (e_callP C_share (hr.mono (by decide)) takes0 (l_cons (e_callP C_power (hr.mono (by decide)) takes0 (l_cons (e_bin or_add s_add (e_var 2) e_int) (l_cons (e_var 1) l_nil)) (ll_cons (ll_cons ll_nil))) (l_cons (e_callP C_power (hr.mono (by decide)) takes0 (l_cons (e_var 0) (l_cons (e_var 1) l_nil)) (ll_cons (ll_cons ll_nil))) l_nil)) (ll_cons (ll_cons ll_nil))))) l_nil) (ll_cons ll_nil))))
theorem ok_unlike (T : Txt K mg ec) (Df : DefF K mg "unlike" s_unlike ["n", "many"])  (C_share : Cal P wo K mg base ec "share" ["top", "bottom"] f_share 2) (C_by_sums : Cal P wo K mg base ec "by_sums" ["sums"] f_by_sums 4) (C_sets_of : Cal P wo K mg base ec "sets_of" ["n", "many"] f_sets_of 1) : Cal P wo K mg base ec "unlike" ["n", "many"] f_unlike 5 :=
  Df.cal fun F => fn_ok (k := 4) F sc_unlike c_unlike fun cdv A outer s H E hr tk hp => by
    have nd := sc_unlike.nd
    have hu := hr.units
    have hu1 := hu_of hr
    have hw := T.w
    exact (b_one (s_ret (e_callP C_by_sums (hr.mono (by decide)) tk (l_cons (e_lc (own := [("rank", 2)]) nd (blkOk_by (own := [("rank", 2)]) (N := N_unlike) (sc := defScope s_unlike) (by decide +kernel)) (i_range1 (e_var 0) T.z_range) (fun _ _ _ _ _ => (g_name 2 nd (by decide))) (fun _ _ _ _ _ => ts_nil) (fun _ _ _ _ _ => (e_callP C_share (hr.mono (by decide)) takes0 (l_cons (e_callP C_sets_of (hr.mono (by decide)) takes0 (l_cons (e_bin or_add s_add (e_var 2) e_int) (l_cons (e_var 1) l_nil)) (ll_cons (ll_cons ll_nil))) (l_cons (e_callP C_sets_of (hr.mono (by decide)) takes0 (l_cons (e_var 0) (l_cons (e_var 1) l_nil)) (ll_cons (ll_cons ll_nil))) l_nil)) (ll_cons (ll_cons ll_nil))))) l_nil) (ll_cons ll_nil))))
theorem ok__law_pen (T : Txt K mg ec) (Df : DefF K mg "_law_pen" s__law_pen ["_law_script"])   : Cal P wo K mg base ec "_law_pen" ["_law_script"] f__law_pen 1 :=
  Df.cal fun F => fn_ok (k := 0) F sc__law_pen c__law_pen fun cdv A outer s H E hr tk hp => by
    have nd := sc__law_pen.nd
    have hu := hr.units
    have hu1 := hu_of hr
    have hw := T.w
    exact (b_one (s_ret (e_disp (dp_cons (key := (.inr "cells")) pe_str (e_sl (e_var 0) o_none (o_some e_int)) (dp_cons (key := (.inr "at")) pe_str e_int (dp_cons (key := (.inr "left")) pe_str e_int dp_nil cl_nil rfl) (cl_cons cl_nil) rfl) (cl_cons (cl_cons cl_nil)) rfl) (cl_cons (cl_cons (cl_cons cl_nil))) (by decide))))
theorem ok__law_draw (T : Txt K mg ec) (Df : DefF K mg "_law_draw" s__law_draw ["_law_pen_here", "_law_many"])   : Cal P wo K mg base ec "_law_draw" ["_law_pen_here", "_law_many"] f__law_draw 1 :=
  Df.cal fun F => fn_ok (k := 0) F sc__law_draw c__law_draw fun cdv A outer s H E hr tk hp => by
    have nd := sc__law_draw.nd
    have hu := hr.units
    have hu1 := hu_of hr
    have hw := T.w
    exact (b_cons (s_if (t_cmp (OpR.or op_gt (op_gtV hu)) s_ord (e_item hu1 (e_var 0) e_str) e_int)
 (b_cons (s_set 2 nd (e_bin op_modN s_mod (e_item hu1 (e_var 0) e_str) (e_var 1)))
 (b_cons (s_dput hu1 (e_var 0) e_str (e_bin op_fdivV s_div (e_item hu1 (e_var 0) e_str) (e_var 1)))
 (b_one (s_ret (e_var 2)))))
 b_nil)
 (b_cons (s_set 3 nd (e_item hu1 (e_var 0) e_str))
 (b_cons (s_dput hu1 (e_var 0) e_str (e_bin or_add s_add (e_var 3) e_int))
 (b_cons (s_set 4 nd (e_bin or_add s_add (e_bin or_mul s_mulV (e_bin or_mul s_mulV e_int (e_var 3)) (e_var 3)) e_int))
 (b_cons (s_if (t_cmp (OpR.or op_gt (op_gtV hu)) s_ord (e_call1 call_lenV s_len T.z_len PySem.boot_len (e_item hu1 (e_var 0) e_str)) e_int)
 (b_one (s_set 4 nd (e_ixR ixr_V s_ix (e_item hu1 (e_var 0) e_str) (e_bin op_modN s_mod (e_var 3) (e_call1 call_lenV s_len T.z_len PySem.boot_len (e_item hu1 (e_var 0) e_str))))))
 b_nil)
 (b_cons (s_if (t_bop (p_and (t_cmp (OpR.or op_lt (op_ltV hu)) s_ord (e_var 3) (e_call1 call_lenV s_len T.z_len PySem.boot_len (e_item hu1 (e_var 0) e_str))) (p_and1 (t_cmp (OpR.or op_ge (op_geV hu)) s_ord (e_call1 call_abs s_abs T.z_abs PyProof.Rows.boot_abs (e_var 4)) (e_bin op_pow s_pow e_int e_int)))))
 (b_cons (s_dput hu1 (e_var 0) e_str (e_bin op_fdivV s_div (e_call1 call_abs s_abs T.z_abs PyProof.Rows.boot_abs (e_var 4)) (e_var 1)))
 (b_one (s_ret (e_bin op_modN s_mod (e_call1 call_abs s_abs T.z_abs PyProof.Rows.boot_abs (e_var 4)) (e_var 1)))))
 b_nil)
 (b_cons (s_set 5 nd (e_bin op_modN s_mod (e_bin or_mul s_mulV (e_bin or_add s_add (e_bin or_add s_add (e_bin op_modN s_mod (e_var 4) e_int) (e_bin or_mul s_mulV e_int (e_var 3))) e_int) e_int) e_int))
 (b_cons (s_set 5 nd (e_bin op_modN s_mod (e_bin or_add s_add (e_bin or_add s_add (e_bin or_mul s_mulV (e_var 5) (e_var 5)) (e_bin or_mul s_mulV e_int (e_var 5))) (e_var 3)) e_int))
 (b_cons (s_set 5 nd (e_bin op_modN s_mod (e_bin or_mul s_mulV (e_var 5) (e_bin or_add s_add (e_bin op_modN s_mod (e_var 5) e_int) e_int)) e_int))
 (b_one (s_ret (e_bin op_modN s_mod (e_bin op_fdivV s_div (e_var 5) e_int) (e_var 1)))))))))))))
theorem ok__law_measure (T : Txt K mg ec) (Df : DefF K mg "_law_measure" s__law_measure ["_law_a", "_law_b"])   : Cal P wo K mg base ec "_law_measure" ["_law_a", "_law_b"] f__law_measure 1 :=
  Df.cal fun F => fn_ok (k := 0) F sc__law_measure c__law_measure fun cdv A outer s H E hr tk hp => by
    have nd := sc__law_measure.nd
    have hu := hr.units
    have hu1 := hu_of hr
    have hw := T.w
    exact (b_cons (s_while (fun _ => 1000000) hp (t_cmp (OpR.or op_gt (op_gtV hu)) s_ord (e_var 1) e_int)
 (b_one (s_par 0 1 nd (e_var 1) (e_bin op_modN s_mod (e_var 0) (e_var 1)) (by decide))))
 (b_one (s_ret (e_var 0))))
theorem ok__law_lowest (T : Txt K mg ec) (Df : DefF K mg "_law_lowest" s__law_lowest ["_law_top", "_law_bottom"])  (C__law_measure : Cal P wo K mg base ec "_law_measure" ["_law_a", "_law_b"] f__law_measure 1) : Cal P wo K mg base ec "_law_lowest" ["_law_top", "_law_bottom"] f__law_lowest 2 :=
  Df.cal fun F => fn_ok (k := 1) F sc__law_lowest c__law_lowest fun cdv A outer s H E hr tk hp => by
    have nd := sc__law_lowest.nd
    have hu := hr.units
    have hu1 := hu_of hr
    have hw := T.w
    exact (b_cons (s_set 2 nd (e_callP C__law_measure (hr.mono (by decide)) tk (l_cons (e_var 0) (l_cons (e_var 1) l_nil)) (ll_cons (ll_cons ll_nil))))
 (b_one (s_ret (e_tup (a_cons (e_bin op_fdivV s_div (e_var 0) (e_var 2)) (a_cons (e_bin op_fdivV s_div (e_var 1) (e_var 2)) a_nil)) (CLen.le (cl_cons (cl_cons cl_nil)) (by decide))))))
theorem ok__law_weights (T : Txt K mg ec) (Df : DefF K mg "_law_weights" s__law_weights ["_law_pen_here", "_law_n"])  (C__law_draw : Cal P wo K mg base ec "_law_draw" ["_law_pen_here", "_law_many"] f__law_draw 1) : Cal P wo K mg base ec "_law_weights" ["_law_pen_here", "_law_n"] f__law_weights 2 :=
  Df.cal fun F => fn_ok (k := 1) F sc__law_weights c__law_weights fun cdv A outer s H E hr tk hp => by
    have nd := sc__law_weights.nd
    have hu := hr.units
    have hu1 := hu_of hr
    have hw := T.w
    exact (b_cons (s_set 2 nd (e_callC C__law_draw (hr.mono (by decide)) tk (l_cons (e_var 0) (l_cons e_int l_nil)) (ll_cons (ll_cons ll_nil))))
 (b_cons (s_setLcM 3 (own := [("_law_rank", 5)]) nd (blkOk_by (own := [("_law_rank", 5)]) (N := N__law_weights) (sc := defScope s__law_weights) (by decide +kernel)) (i_range1 (e_var 1) T.z_range) (fun _ _ _ _ _ => (g_name 5 nd (by decide))) (fun _ _ _ _ _ => ts_nil) (fun _ _ _ _ _ => (e_callC C__law_draw (hr.mono (by decide)) takes0 (l_cons (e_var 0) (l_cons (e_ixR ixr_V s_ix (e_lst (a_cons e_int (a_cons e_int (a_cons e_int (a_cons e_int (a_cons e_int (a_cons e_int a_nil)))))) (CLen.le (cl_cons (cl_cons (cl_cons (cl_cons (cl_cons (cl_cons cl_nil)))))) (by decide))) (e_var 2)) l_nil)) (ll_cons (ll_cons ll_nil)))))
 (b_cons (s_set 4 nd (e_callC C__law_draw (hr.mono (by decide)) tk (l_cons (e_var 0) (l_cons (e_var 1) l_nil)) (ll_cons (ll_cons ll_nil))))
 (b_cons (s_if (t_cmp (op_eqV hu) s_eq (e_var 2) e_int)
 (b_one (s_setLcM 3 (own := [("_law_rank", 5)]) nd (blkOk_by (own := [("_law_rank", 5)]) (N := N__law_weights) (sc := defScope s__law_weights) (by decide +kernel)) (i_range1 (e_var 1) T.z_range) (fun _ _ _ _ _ => (g_name 5 nd (by decide))) (fun _ _ _ _ _ => ts_nil) (fun _ _ _ _ _ => (e_callT1 call_int1 s_int T.z_int (by decide +kernel) (e_cmp (op_eqV hu) s_eq (e_var 5) (e_var 4))))))
 b_nil)
 (b_cons (s_if (t_cmp (op_eqV hu) s_eq (e_var 2) e_int)
 (b_one (s_setM 3 nd (e_bin or_add s_add (e_bin or_mul s_mulV (e_lst (a_cons e_int a_nil) (CLen.le (cl_cons cl_nil) (by decide))) (e_var 4)) (e_sl (e_var 3) (o_some (e_var 4)) o_none))))
 b_nil)
 (b_cons (s_if (t_cmp (op_eqV hu) s_eq (e_call1 (call_sumV rfl) s_sum T.z_sum (by decide +kernel) (e_var 3)) e_int)
 (b_one (s_putL (e_var 3) (e_var 4) (e_bin or_add s_add e_int (e_callC C__law_draw (hr.mono (by decide)) tk (l_cons (e_var 0) (l_cons e_int l_nil)) (ll_cons (ll_cons ll_nil))))))
 b_nil)
 (b_one (s_ret (e_var 3)))))))))
theorem ok__law_rule (T : Txt K mg ec) (Df : DefF K mg "_law_rule" s__law_rule ["_law_weights_here"])  (C__law_lowest : Cal P wo K mg base ec "_law_lowest" ["_law_top", "_law_bottom"] f__law_lowest 2) : Cal P wo K mg base ec "_law_rule" ["_law_weights_here"] f__law_rule 3 :=
  Df.cal fun F => fn_ok (k := 2) F sc__law_rule c__law_rule fun cdv A outer s H E hr tk hp => by
    have nd := sc__law_rule.nd
    have hu := hr.units
    have hu1 := hu_of hr
    have hw := T.w
    exact (b_one (s_ret (e_callT1 call_tuple_of s_tuple T.z_tuple (by decide +kernel) (e_lc (own := [("_law_one", 1)]) nd (blkOk_by (own := [("_law_one", 1)]) (N := N__law_rule) (sc := defScope s__law_rule) (by decide +kernel)) (i_seq (e_var 0)) (fun _ _ _ _ _ => (g_name 1 nd (by decide))) (fun _ _ _ _ _ => ts_nil) (fun _ _ _ _ _ => (e_callP C__law_lowest (hr.mono (by decide)) takes0 (l_cons (e_var 1) (l_cons (e_call1 (call_sumV rfl) s_sum T.z_sum (by decide +kernel) (e_var 0)) l_nil)) (ll_cons (ll_cons ll_nil))))))))
theorem ok__law_spread (T : Txt K mg ec) (Df : DefF K mg "_law_spread" s__law_spread ["_law_found"])  (C__law_lowest : Cal P wo K mg base ec "_law_lowest" ["_law_top", "_law_bottom"] f__law_lowest 2) : Cal P wo K mg base ec "_law_spread" ["_law_found"] f__law_spread 3 :=
  Df.cal fun F => fn_ok (k := 2) F sc__law_spread c__law_spread fun cdv A outer s H E hr tk hp => by
    have nd := sc__law_spread.nd
    have hu := hr.units
    have hu1 := hu_of hr
    have hw := T.w
    exact (b_cons (s_set 1 nd (e_sumV T.z_sum (e_var 0)))
 (b_one (s_ret (e_lc (own := [("_law_load_here", 2)]) nd (blkOk_by (own := [("_law_load_here", 2)]) (N := N__law_spread) (sc := defScope s__law_spread) (by decide +kernel)) (i_seq (e_sortedX hu T.z_sorted (e_var 0))) (fun _ _ _ _ _ => (g_name 2 nd (by decide))) (fun _ _ _ _ _ => ts_nil) (fun _ _ _ _ _ => (e_tup (a_cons (e_var 2) (a_cons (e_callP C__law_lowest (hr.mono (by decide)) takes0 (l_cons (e_item hu1 (e_var 0) (e_var 2)) (l_cons (e_var 1) l_nil)) (ll_cons (ll_cons ll_nil))) a_nil)) (CLen.le (cl_cons (cl_cons cl_nil)) (by decide))))))))
theorem ok__law_rows (T : Txt K mg ec) (Df : DefF K mg "_law_rows" s__law_rows ["_law_some", "_law_many"])   : Cal P wo K mg base ec "_law_rows" ["_law_some", "_law_many"] f__law_rows 1 :=
  Df.cal fun F => fn_ok (k := 0) F sc__law_rows c__law_rows fun cdv A outer s H E hr tk hp => by
    have nd := sc__law_rows.nd
    have hu := hr.units
    have hu1 := hu_of hr
    have hw := T.w
    exact (b_cons (s_set 2 nd (e_lst (a_cons (e_lst a_nil (CLen.le cl_nil (by decide))) a_nil) (CLen.le (cl_cons cl_nil) (by decide))))
 (b_cons (s_for (own := [3]) hp (i_range1 (e_var 1) T.z_range) (g_name 3 nd (by decide))
 (b_cons (s_setM 4 nd (e_lst a_nil (CLen.le cl_nil (by decide))))
 (b_cons (s_for (own := [5]) hp (i_seq (e_var 2)) (g_name 5 nd (by decide))
 (b_one (s_expr (e_extend (e_var 4) (a_cons (e_lc (own := [("_law_one", 6)]) nd (blkOk_by (own := [("_law_one", 6)]) (N := N__law_rows) (sc := defScope s__law_rows) (by decide +kernel)) (i_seq (e_var 0)) (fun _ _ _ _ _ => (g_name 6 nd (by decide))) (fun _ _ _ _ _ => ts_nil) (fun _ _ _ _ _ => (e_bin or_add s_add (e_var 5) (e_lst (a_cons (e_var 6) a_nil) (CLen.le (cl_cons cl_nil) (by decide)))))) a_nil)))))
 (b_one (s_set 2 nd (e_fz 4))))))
 (b_one (s_ret (e_var 2)))))
theorem ok__law_sets (T : Txt K mg ec) (Df : DefF K mg "_law_sets" s__law_sets ["_law_n", "_law_many"])  (C__law_rows : Cal P wo K mg base ec "_law_rows" ["_law_some", "_law_many"] f__law_rows 1) : Cal P wo K mg base ec "_law_sets" ["_law_n", "_law_many"] f__law_sets 2 :=
  Df.cal fun F => fn_ok (k := 1) F sc__law_sets c__law_sets fun cdv A outer s H E hr tk hp => by
    have nd := sc__law_sets.nd
    have hu := hr.units
    have hu1 := hu_of hr
    have hw := T.w
    exact (b_one (s_ret (e_lc (own := [("_law_row", 2)]) nd (blkOk_by (own := [("_law_row", 2)]) (N := N__law_sets) (sc := defScope s__law_sets) (by decide +kernel)) (i_seq (e_callP C__law_rows (hr.mono (by decide)) tk (l_cons (e_listRg T.z_list T.z_range (e_var 0)) (l_cons (e_var 1) l_nil)) (ll_cons (ll_cons ll_nil)))) (fun _ _ _ _ _ => (g_name 2 nd (by decide))) (fun _ _ _ _ _ => (ts_one (t_cmp (op_eqV hu) s_eq (e_setSortI T.z_sorted T.z_set (e_var 2)) (e_var 2)))) (fun _ _ _ _ _ => (e_var 2)))))
theorem ok__law_goal (T : Txt K mg ec) (Df : DefF K mg "_law_goal" s__law_goal ["_law_stand", "_law_draw_here", "_law_last"])   : Cal P wo K mg base ec "_law_goal" ["_law_stand", "_law_draw_here", "_law_last"] f__law_goal 1 :=
  Df.cal fun F => fn_ok (k := 0) F sc__law_goal c__law_goal fun cdv A outer s H E hr tk hp => by
    have nd := sc__law_goal.nd
    have hu := hr.units
    have hu1 := hu_of hr
    have hw := T.w
    exact (b_cons (s_setLc 3 (own := [("_law_box", 4)]) nd (blkOk_by (own := [("_law_box", 4)]) (N := N__law_goal) (sc := defScope s__law_goal) (by decide +kernel)) (i_seq (e_var 1)) (fun _ _ _ _ _ => (g_name 4 nd (by decide))) (fun _ _ _ _ _ => (ts_one (t_cmp (op_eqV hu) s_eq (e_ixR ixr_V s_ix (e_var 0) (e_var 4)) (e_call1 (call_minV hr rfl) s_min T.z_min (by decide +kernel) (e_lc (own := [("_law_one", 5)]) nd (blkOk_in (own := [("_law_one", 5)]) (N := N__law_goal) (by rfl) (by decide +kernel)) (i_seq (e_var 1)) (fun _ _ _ _ _ => (g_name 5 nd (by decide))) (fun _ _ _ _ _ => ts_nil) (fun _ _ _ _ _ => (e_ixR ixr_V s_ix (e_var 0) (e_var 5)))))))) (fun _ _ _ _ _ => (e_var 4)))
 (b_one (s_ret (e_ixR ixr_V s_ix (e_lst (a_cons (e_ixR ixr_V s_ix (e_var 3) e_int) (a_cons (e_ixR ixr_V s_ix (e_var 3) (e_un un_neg s_neg e_int)) a_nil)) (CLen.le (cl_cons (cl_cons cl_nil)) (by decide))) (e_callT1 call_int1 s_int T.z_int (by decide +kernel) (e_var 2))))))
theorem ok__law_counts (T : Txt K mg ec) (Df : DefF K mg "_law_counts" s__law_counts ["_law_stand", "_law_draws", "_law_many", "_law_last"])  (C__law_rows : Cal P wo K mg base ec "_law_rows" ["_law_some", "_law_many"] f__law_rows 1) (C__law_goal : Cal P wo K mg base ec "_law_goal" ["_law_stand", "_law_draw_here", "_law_last"] f__law_goal 1) : Cal P wo K mg base ec "_law_counts" ["_law_stand", "_law_draws", "_law_many", "_law_last"] f__law_counts 2 :=
  Df.cal fun F => fn_ok (k := 1) F sc__law_counts c__law_counts fun cdv A outer s H E hr tk hp => by
    have nd := sc__law_counts.nd
    have hu := hr.units
    have hu1 := hu_of hr
    have hw := T.w
    exact (b_cons (s_setM 4 nd e_newT)
 (b_cons (s_for (own := [5]) hp (i_seq (e_callP C__law_rows (hr.mono (by decide)) tk (l_cons (e_var 1) (l_cons (e_var 2) l_nil)) (ll_cons (ll_cons ll_nil)))) (g_name 5 nd (by decide))
 (b_cons (s_setM 6 nd (e_callT1 call_list_of s_list T.z_list (by decide +kernel) (e_var 0)))
 (b_cons (s_for (own := [7]) hp (i_seq (e_var 5)) (g_name 7 nd (by decide))
 (b_cons (s_set 8 nd (e_callV C__law_goal (hr.mono (by decide)) tk (v_lend 6 (v_cons (e_var 7) (v_cons (e_var 3) v_nil))) (ll_lend (ll_cons (ll_cons ll_nil)))))
 (b_one (s_putL (e_var 6) (e_var 8) (e_bin or_add s_add (e_ixR ixr_V s_ix (e_var 6) (e_var 8)) e_int)))))
 (b_cons (s_set 9 nd (e_callT1 call_tuple_of s_tuple T.z_tuple (by decide +kernel) (e_sortedR T.z_sorted (e_var 6))))
 (b_one (s_dput hu1 (e_var 4) (e_var 9) (e_bin or_add s_add (e_get hu1 (e_var 4) (e_var 9) e_int) e_int)))))))
 (b_one (s_ret (e_var 4)))))
theorem ok__law_by_ranks (T : Txt K mg ec) (Df : DefF K mg "_law_by_ranks" s__law_by_ranks ["_law_load_here", "_law_weights_here", "_law_many"])  (C__law_rows : Cal P wo K mg base ec "_law_rows" ["_law_some", "_law_many"] f__law_rows 1) : Cal P wo K mg base ec "_law_by_ranks" ["_law_load_here", "_law_weights_here", "_law_many"] f__law_by_ranks 2 :=
  Df.cal fun F => fn_ok (k := 1) F sc__law_by_ranks c__law_by_ranks fun cdv A outer s H E hr tk hp => by
    have nd := sc__law_by_ranks.nd
    have hu := hr.units
    have hu1 := hu_of hr
    have hw := T.w
    exact (b_cons (s_setM 3 nd e_newT)
 (b_cons (s_for (own := [4]) hp (i_seq (e_callP C__law_rows (hr.mono (by decide)) tk (l_cons (e_listRg T.z_list T.z_range (e_call1 call_lenV s_len T.z_len PySem.boot_len (e_var 1))) (l_cons (e_var 2) l_nil)) (ll_cons (ll_cons ll_nil)))) (g_name 4 nd (by decide))
 (b_cons (s_setM 5 nd (e_callT1 call_list_of s_list T.z_list (by decide +kernel) (e_var 0)))
 (b_cons (s_set 6 nd e_int)
 (b_cons (s_for (own := [7]) hp (i_seq (e_var 4)) (g_name 7 nd (by decide))
 (b_cons (s_putL (e_var 5) (e_var 7) (e_bin or_add s_add (e_ixR ixr_V s_ix (e_var 5) (e_var 7)) e_int))
 (b_cons (s_setM 5 nd (e_sortedR T.z_sorted (e_var 5)))
 (b_one (s_set 6 nd (e_bin or_mul s_mulV (e_var 6) (e_ixR ixr_V s_ix (e_var 1) (e_var 7))))))))
 (b_one (s_if (t_cmp (OpR.or op_gt (op_gtV hu)) s_ord (e_var 6) e_int)
 (b_one (s_dput hu1 (e_var 3) (e_callT1 call_tuple_of s_tuple T.z_tuple (by decide +kernel) (e_var 5)) (e_bin or_add s_add (e_get hu1 (e_var 3) (e_callT1 call_tuple_of s_tuple T.z_tuple (by decide +kernel) (e_var 5)) e_int) (e_var 6))))
 b_nil))))))
 (b_one (s_ret (e_var 3)))))
theorem ok__law_few (T : Txt K mg ec) (Df : DefF K mg "_law_few" s__law_few ["_law_n", "_law_many"])   : Cal P wo K mg base ec "_law_few" ["_law_n", "_law_many"] f__law_few 1 :=
  Df.cal fun F => fn_ok (k := 0) F sc__law_few c__law_few fun cdv A outer s H E hr tk hp => by
    have nd := sc__law_few.nd
    have hu := hr.units
    have hu1 := hu_of hr
    have hw := T.w
    exact (b_cons (s_set 2 nd e_int)
 (b_cons (s_for (own := [3]) hp (i_range1 (e_var 1) T.z_range) (g_name 3 nd (by decide))
 (b_cons (s_set 2 nd (e_bin or_mul s_mulV (e_var 2) (e_var 0)))
 (b_one (s_if (t_cmp (OpR.or op_gt (op_gtV hu)) s_ord (e_var 2) e_int)
 (b_one (s_ret (e_var 3)))
 b_nil))))
 (b_one (s_ret (e_var 1)))))
theorem ok__law_right (T : Txt K mg ec) (Df : DefF K mg "_law_right" s__law_right ["_law_told", "_law_found"])  (C_mean : Cal P wo K mg base ec "mean" ["spread", "word"] f_mean 5) (C__law_lowest : Cal P wo K mg base ec "_law_lowest" ["_law_top", "_law_bottom"] f__law_lowest 2) (C__law_spread : Cal P wo K mg base ec "_law_spread" ["_law_found"] f__law_spread 3) : Cal P wo K mg base ec "_law_right" ["_law_told", "_law_found"] f__law_right 6 :=
  Df.cal fun F => fn_ok (k := 5) F sc__law_right c__law_right fun cdv A outer s H E hr tk hp => by
    have nd := sc__law_right.nd
    have hu := hr.units
    have hu1 := hu_of hr
    have hw := T.w
    exact (b_cons (s_if (t_cmp (op_neV hu) s_ne (e_call1 (call_reprV hr) s_repr T.z_repr (by decide +kernel) (e_var 0)) (e_call1 (call_reprV hr) s_repr T.z_repr (by decide +kernel) (e_callP C__law_spread (hr.mono (by decide)) tk (l_cons (e_var 1) l_nil) (ll_cons ll_nil))))
 (b_one (s_ret e_bool))
 b_nil)
 (b_cons (s_set 2 nd (e_call1 (call_sumV rfl) s_sum T.z_sum (by decide +kernel) (e_lc (own := [("_law_load_here", 3)]) nd (blkOk_by (own := [("_law_load_here", 3)]) (N := N__law_right) (sc := defScope s__law_right) (by decide +kernel)) (i_keysT (e_var 1)) (fun _ _ _ _ _ => (g_name 3 nd (by decide))) (fun _ _ _ _ _ => ts_nil) (fun _ _ _ _ _ => (e_bin or_mul s_mulV (e_item hu1 (e_var 1) (e_var 3)) (e_ixR ixr_V s_ix (e_var 3) e_int))))))
 (b_one (s_ret (e_cmp (op_eqV hu) s_eq (e_callP C_mean (hr.mono (by decide)) tk (l_cons (e_var 0) (l_cons e_str l_nil)) (ll_cons (ll_cons ll_nil))) (e_callP C__law_lowest (hr.mono (by decide)) tk (l_cons (e_var 2) (l_cons (e_sumV T.z_sum (e_var 1)) l_nil)) (ll_cons (ll_cons ll_nil))))))))
theorem ok_law (T : Txt K mg ec) (Df : DefF K mg "law" s_law ["_law_script"])  (C_alone : Cal P wo K mg base ec "alone" ["load"] f_alone 1) (C_after : Cal P wo K mg base ec "after" ["rule", "spread", "many"] f_after 8) (C_drawn : Cal P wo K mg base ec "drawn" ["n", "many"] f_drawn 5) (C_unlike : Cal P wo K mg base ec "unlike" ["n", "many"] f_unlike 5) (C__law_pen : Cal P wo K mg base ec "_law_pen" ["_law_script"] f__law_pen 1) (C__law_draw : Cal P wo K mg base ec "_law_draw" ["_law_pen_here", "_law_many"] f__law_draw 1) (C__law_weights : Cal P wo K mg base ec "_law_weights" ["_law_pen_here", "_law_n"] f__law_weights 2) (C__law_rule : Cal P wo K mg base ec "_law_rule" ["_law_weights_here"] f__law_rule 3) (C__law_rows : Cal P wo K mg base ec "_law_rows" ["_law_some", "_law_many"] f__law_rows 1) (C__law_sets : Cal P wo K mg base ec "_law_sets" ["_law_n", "_law_many"] f__law_sets 2) (C__law_counts : Cal P wo K mg base ec "_law_counts" ["_law_stand", "_law_draws", "_law_many", "_law_last"] f__law_counts 2) (C__law_by_ranks : Cal P wo K mg base ec "_law_by_ranks" ["_law_load_here", "_law_weights_here", "_law_many"] f__law_by_ranks 2) (C__law_few : Cal P wo K mg base ec "_law_few" ["_law_n", "_law_many"] f__law_few 1) (C__law_right : Cal P wo K mg base ec "_law_right" ["_law_told", "_law_found"] f__law_right 6) : Cal P wo K mg base ec "law" ["_law_script"] f_law 9 :=
  Df.cal fun F => fn_ok (k := 8) F sc_law c_law fun cdv A outer s H E hr tk hp => by
    have nd := sc_law.nd
    have hu := hr.units
    have hu1 := hu_of hr
    have hw := T.w
    exact (b_cons (s_setM 1 nd (e_callP C__law_pen (hr.mono (by decide)) tk (l_cons (e_var 0) l_nil) (ll_cons ll_nil)))
 (b_cons (s_set 2 nd (e_lst (a_cons (e_tup (a_cons e_int (a_cons e_int (a_cons e_int a_nil))) (CLen.le (cl_cons (cl_cons (cl_cons cl_nil))) (by decide))) (a_cons (e_tup (a_cons e_int (a_cons e_int (a_cons e_int a_nil))) (CLen.le (cl_cons (cl_cons (cl_cons cl_nil))) (by decide))) (a_cons (e_tup (a_cons e_int (a_cons e_int (a_cons e_int a_nil))) (CLen.le (cl_cons (cl_cons (cl_cons cl_nil))) (by decide))) (a_cons (e_tup (a_cons e_int (a_cons e_int (a_cons e_int a_nil))) (CLen.le (cl_cons (cl_cons (cl_cons cl_nil))) (by decide))) (a_cons (e_tup (a_cons e_int (a_cons e_int (a_cons e_int a_nil))) (CLen.le (cl_cons (cl_cons (cl_cons cl_nil))) (by decide))) (a_cons (e_tup (a_cons e_int (a_cons e_int (a_cons e_int a_nil))) (CLen.le (cl_cons (cl_cons (cl_cons cl_nil))) (by decide))) (a_cons (e_tup (a_cons e_int (a_cons e_int (a_cons e_int a_nil))) (CLen.le (cl_cons (cl_cons (cl_cons cl_nil))) (by decide))) (a_cons (e_tup (a_cons e_int (a_cons e_int (a_cons e_int a_nil))) (CLen.le (cl_cons (cl_cons (cl_cons cl_nil))) (by decide))) a_nil)))))))) (CLen.le (cl_cons (cl_cons (cl_cons (cl_cons (cl_cons (cl_cons (cl_cons (cl_cons cl_nil)))))))) (by decide))))
 (b_cons (s_asg (own := [3, 4, 5]) (e_ixR ixr_V s_ix (e_bin or_add s_add (e_var 2) (e_lst (a_cons (e_tup (a_cons e_int (a_cons e_int (a_cons e_int a_nil))) (CLen.le (cl_cons (cl_cons (cl_cons cl_nil))) (by decide))) (a_cons (e_tup (a_cons e_int (a_cons e_int (a_cons e_int a_nil))) (CLen.le (cl_cons (cl_cons (cl_cons cl_nil))) (by decide))) a_nil)) (CLen.le (cl_cons (cl_cons cl_nil)) (by decide)))) (e_callC C__law_draw (hr.mono (by decide)) tk (l_cons (e_var 1) (l_cons e_int l_nil)) (ll_cons (ll_cons ll_nil)))) (g_tup (gs_cons (g_name 3 nd (by decide)) (gs_cons (g_name 4 nd (by decide)) (gs_cons (g_name 5 nd (by decide)) gs_nil)))))
 (b_cons (s_set 6 nd (e_cmp (op_eqV hu) s_eq (e_callC C__law_draw (hr.mono (by decide)) tk (l_cons (e_var 1) (l_cons e_int l_nil)) (ll_cons (ll_cons ll_nil))) e_int))
 (b_cons (s_setLc 7 (own := [("_law_box", 13)]) nd (blkOk_by (own := [("_law_box", 13)]) (N := N_law) (sc := defScope s_law) (by decide +kernel)) (i_range1 (e_var 3) T.z_range) (fun _ _ _ _ _ => (g_name 13 nd (by decide))) (fun _ _ _ _ _ => ts_nil) (fun _ _ _ _ _ => (e_callC C__law_draw (hr.mono (by decide)) takes0 (l_cons (e_var 1) (l_cons (e_ixR ixr_V s_ix (e_lst (a_cons e_int (a_cons e_int a_nil)) (CLen.le (cl_cons (cl_cons cl_nil)) (by decide))) (e_callC C__law_draw (hr.mono (by decide)) takes0 (l_cons (e_var 1) (l_cons e_int l_nil)) (ll_cons (ll_cons ll_nil)))) l_nil)) (ll_cons (ll_cons ll_nil)))))
 (b_cons (s_set 8 nd (e_callT1 call_tuple_of s_tuple T.z_tuple (by decide +kernel) (e_sortedR T.z_sorted (e_var 7))))
 (b_cons (s_set 9 nd (e_callP C__law_rows (hr.mono (by decide)) tk (l_cons (e_listRg T.z_list T.z_range (e_var 3)) (l_cons (e_var 4) l_nil)) (ll_cons (ll_cons ll_nil))))
 (b_cons (s_if (t_not (t_of (e_callP C__law_right (hr.mono (by decide)) tk (l_cons (e_callP C_after (hr.mono (by decide)) tk (l_cons (e_callP C_drawn (hr.mono (by decide)) tk (l_cons (e_var 3) (l_cons (e_var 4) l_nil)) (ll_cons (ll_cons ll_nil))) (l_cons (e_callP C_alone (hr.mono (by decide)) tk (l_cons (e_var 8) l_nil) (ll_cons ll_nil)) (l_cons (e_var 5) l_nil))) (ll_cons (ll_cons (ll_cons ll_nil)))) (l_cons (e_lk (e_callP C__law_counts (hr.mono (by decide)) tk (l_cons (e_var 7) (l_cons (e_var 9) (l_cons (e_var 5) (l_cons (e_var 6) l_nil)))) (ll_cons (ll_cons (ll_cons (ll_cons ll_nil)))))) l_nil)) (ll_cons (ll_cons ll_nil)))))
 (b_one (s_ret e_bool))
 b_nil)
 (b_cons (s_set 10 nd (e_bin or_add s_add e_int (e_callC C__law_draw (hr.mono (by decide)) tk (l_cons (e_var 1) (l_cons (e_call2 (call_min2 rfl) s_min2 T.z_min (by decide +kernel) (e_var 3) e_int) l_nil)) (ll_cons (ll_cons ll_nil)))))
 (b_cons (s_set 11 nd (e_callP C__law_sets (hr.mono (by decide)) tk (l_cons (e_var 3) (l_cons (e_var 10) l_nil)) (ll_cons (ll_cons ll_nil))))
 (b_cons (s_set 5 nd (e_callP C__law_few (hr.mono (by decide)) tk (l_cons (e_call1 call_lenV s_len T.z_len PySem.boot_len (e_var 11)) (l_cons (e_var 5) l_nil)) (ll_cons (ll_cons ll_nil))))
 (b_cons (s_if (t_not (t_of (e_callP C__law_right (hr.mono (by decide)) tk (l_cons (e_callP C_after (hr.mono (by decide)) tk (l_cons (e_callP C_unlike (hr.mono (by decide)) tk (l_cons (e_var 3) (l_cons (e_var 10) l_nil)) (ll_cons (ll_cons ll_nil))) (l_cons (e_callP C_alone (hr.mono (by decide)) tk (l_cons (e_var 8) l_nil) (ll_cons ll_nil)) (l_cons (e_var 5) l_nil))) (ll_cons (ll_cons (ll_cons ll_nil)))) (l_cons (e_lk (e_callP C__law_counts (hr.mono (by decide)) tk (l_cons (e_var 7) (l_cons (e_var 11) (l_cons (e_var 5) (l_cons (e_var 6) l_nil)))) (ll_cons (ll_cons (ll_cons (ll_cons ll_nil)))))) l_nil)) (ll_cons (ll_cons ll_nil)))))
 (b_one (s_ret e_bool))
 b_nil)
 (b_cons (s_set 5 nd (e_callP C__law_few (hr.mono (by decide)) tk (l_cons (e_var 3) (l_cons (e_var 5) l_nil)) (ll_cons (ll_cons ll_nil))))
 (b_cons (s_set 12 nd (e_callC C__law_weights (hr.mono (by decide)) tk (l_cons (e_var 1) (l_cons (e_var 3) l_nil)) (ll_cons (ll_cons ll_nil))))
 (b_one (s_ret (e_callP C__law_right (hr.mono (by decide)) tk (l_cons (e_callP C_after (hr.mono (by decide)) tk (l_cons (e_callP C__law_rule (hr.mono (by decide)) tk (l_cons (e_var 12) l_nil) (ll_cons ll_nil)) (l_cons (e_callP C_alone (hr.mono (by decide)) tk (l_cons (e_var 8) l_nil) (ll_cons ll_nil)) (l_cons (e_var 5) l_nil))) (ll_cons (ll_cons (ll_cons ll_nil)))) (l_cons (e_lk (e_callP C__law_by_ranks (hr.mono (by decide)) tk (l_cons (e_var 8) (l_cons (e_var 12) (l_cons (e_var 5) l_nil))) (ll_cons (ll_cons (ll_cons ll_nil))))) l_nil)) (ll_cons (ll_cons ll_nil)))))))))))))))))))
end
theorem all_mk {l : PySem.W.OpenLaw} {w : World} {K : Fg} {h : Heap} {mg : Str → Option Value} {fa : Addr} (X : K.In h) (G : h.Ns mainGlobals mg) (hfa : mg "law" = some (.ref fa))
    {a0 a1 a2 a3 a4 a5 a6 a7 a8 a9 a10 a11 a12 a13 a14 a15 a16 a17 a18 a19 a20 a21 a22 a23 a24 a25 a26 a27 a28 a29 a30 a31 a32 a33 a34 a35 a36 : Addr} {od0 an0 od1 an1 od2 an2 od3 an3 od4 an4 od5 an5 od6 an6 od7 an7 od8 an8 od9 an9 od10 an10 od11 an11 od12 an12 od13 an13 od14 an14 od15 an15 od16 an16 od17 an17 od18 an18 od19 an19 od20 an20 od21 an21 od22 an22 od23 an23 od24 an24 od25 an25 od26 an26 od27 an27 od28 an28 od29 an29 od30 an30 od31 an31 od32 an32 od33 an33 od34 an34 od35 an35 od36 an36 : Option Addr} {sl0 sl1 sl2 sl3 sl4 sl5 sl6 sl7 sl8 sl9 sl10 sl11 sl12 sl13 sl14 sl15 sl16 sl17 sl18 sl19 sl20 sl21 sl22 sl23 sl24 sl25 sl26 sl27 sl28 sl29 sl30 sl31 sl32 sl33 sl34 sl35 sl36 : Array (Option Value)} {oc0 kV0 dc0 pm0 cd0 ct0 oc1 kV1 dc1 pm1 cd1 ct1 oc2 kV2 dc2 pm2 cd2 ct2 oc3 kV3 dc3 pm3 cd3 ct3 oc4 kV4 dc4 pm4 cd4 ct4 oc5 kV5 dc5 pm5 cd5 ct5 oc6 kV6 dc6 pm6 cd6 ct6 oc7 kV7 dc7 pm7 cd7 ct7 oc8 kV8 dc8 pm8 cd8 ct8 oc9 kV9 dc9 pm9 cd9 ct9 oc10 kV10 dc10 pm10 cd10 ct10 oc11 kV11 dc11 pm11 cd11 ct11 oc12 kV12 dc12 pm12 cd12 ct12 oc13 kV13 dc13 pm13 cd13 ct13 oc14 kV14 dc14 pm14 cd14 ct14 oc15 kV15 dc15 pm15 cd15 ct15 oc16 kV16 dc16 pm16 cd16 ct16 oc17 kV17 dc17 pm17 cd17 ct17 oc18 kV18 dc18 pm18 cd18 ct18 oc19 kV19 dc19 pm19 cd19 ct19 oc20 kV20 dc20 pm20 cd20 ct20 oc21 kV21 dc21 pm21 cd21 ct21 oc22 kV22 dc22 pm22 cd22 ct22 oc23 kV23 dc23 pm23 cd23 ct23 oc24 kV24 dc24 pm24 cd24 ct24 oc25 kV25 dc25 pm25 cd25 ct25 oc26 kV26 dc26 pm26 cd26 ct26 oc27 kV27 dc27 pm27 cd27 ct27 oc28 kV28 dc28 pm28 cd28 ct28 oc29 kV29 dc29 pm29 cd29 ct29 oc30 kV30 dc30 pm30 cd30 ct30 oc31 kV31 dc31 pm31 cd31 ct31 oc32 kV32 dc32 pm32 cd32 ct32 oc33 kV33 dc33 pm33 cd33 ct33 oc34 kV34 dc34 pm34 cd34 ct34 oc35 kV35 dc35 pm35 cd35 ct35 oc36 kV36 dc36 pm36 cd36 ct36 : Value} {xNoShare xTooMany xUnlike : Addr}
    {t_MOST_LOADS : Tok}
    (a_0 : PySem.W.nsIn K mainGlobals "measure" = some (some (.ref a0))) (l_0 : K.lookup a0 = some ⟨oc0, od0, .func (PySem.W.fnOf "measure" "measure" (defArgs s_measure) (defBody s_measure) (defScope s_measure) .none kV0 dc0 pm0 an0 cd0 ct0), sl0⟩) (c_0 : PySem.W.codeIn K cd0 "measure" = true) (k_0 : PySem.W.keepIn K (.ref a0) = true)
    (a_1 : PySem.W.nsIn K mainGlobals "share" = some (some (.ref a1))) (l_1 : K.lookup a1 = some ⟨oc1, od1, .func (PySem.W.fnOf "share" "share" (defArgs s_share) (defBody s_share) (defScope s_share) .none kV1 dc1 pm1 an1 cd1 ct1), sl1⟩) (c_1 : PySem.W.codeIn K cd1 "share" = true) (k_1 : PySem.W.keepIn K (.ref a1) = true)
    (a_2 : PySem.W.nsIn K mainGlobals "plus" = some (some (.ref a2))) (l_2 : K.lookup a2 = some ⟨oc2, od2, .func (PySem.W.fnOf "plus" "plus" (defArgs s_plus) (defBody s_plus) (defScope s_plus) .none kV2 dc2 pm2 an2 cd2 ct2), sl2⟩) (c_2 : PySem.W.codeIn K cd2 "plus" = true) (k_2 : PySem.W.keepIn K (.ref a2) = true)
    (a_3 : PySem.W.nsIn K mainGlobals "minus" = some (some (.ref a3))) (l_3 : K.lookup a3 = some ⟨oc3, od3, .func (PySem.W.fnOf "minus" "minus" (defArgs s_minus) (defBody s_minus) (defScope s_minus) .none kV3 dc3 pm3 an3 cd3 ct3), sl3⟩) (c_3 : PySem.W.codeIn K cd3 "minus" = true) (k_3 : PySem.W.keepIn K (.ref a3) = true)
    (a_4 : PySem.W.nsIn K mainGlobals "times" = some (some (.ref a4))) (l_4 : K.lookup a4 = some ⟨oc4, od4, .func (PySem.W.fnOf "times" "times" (defArgs s_times) (defBody s_times) (defScope s_times) .none kV4 dc4 pm4 an4 cd4 ct4), sl4⟩) (c_4 : PySem.W.codeIn K cd4 "times" = true) (k_4 : PySem.W.keepIn K (.ref a4) = true)
    (a_5 : PySem.W.nsIn K mainGlobals "total" = some (some (.ref a5))) (l_5 : K.lookup a5 = some ⟨oc5, od5, .func (PySem.W.fnOf "total" "total" (defArgs s_total) (defBody s_total) (defScope s_total) .none kV5 dc5 pm5 an5 cd5 ct5), sl5⟩) (c_5 : PySem.W.codeIn K cd5 "total" = true) (k_5 : PySem.W.keepIn K (.ref a5) = true)
    (a_6 : PySem.W.nsIn K mainGlobals "sorted_load" = some (some (.ref a6))) (l_6 : K.lookup a6 = some ⟨oc6, od6, .func (PySem.W.fnOf "sorted_load" "sorted_load" (defArgs s_sorted_load) (defBody s_sorted_load) (defScope s_sorted_load) .none kV6 dc6 pm6 an6 cd6 ct6), sl6⟩) (c_6 : PySem.W.codeIn K cd6 "sorted_load" = true) (k_6 : PySem.W.keepIn K (.ref a6) = true)
    (a_7 : PySem.W.nsIn K mainGlobals "changed_at" = some (some (.ref a7))) (l_7 : K.lookup a7 = some ⟨oc7, od7, .func (PySem.W.fnOf "changed_at" "changed_at" (defArgs s_changed_at) (defBody s_changed_at) (defScope s_changed_at) .none kV7 dc7 pm7 an7 cd7 ct7), sl7⟩) (c_7 : PySem.W.codeIn K cd7 "changed_at" = true) (k_7 : PySem.W.keepIn K (.ref a7) = true)
    (a_8 : PySem.W.nsIn K mainGlobals "put_at" = some (some (.ref a8))) (l_8 : K.lookup a8 = some ⟨oc8, od8, .func (PySem.W.fnOf "put_at" "put_at" (defArgs s_put_at) (defBody s_put_at) (defScope s_put_at) .none kV8 dc8 pm8 an8 cd8 ct8), sl8⟩) (c_8 : PySem.W.codeIn K cd8 "put_at" = true) (k_8 : PySem.W.keepIn K (.ref a8) = true)
    (a_9 : PySem.W.nsIn K mainGlobals "alone" = some (some (.ref a9))) (l_9 : K.lookup a9 = some ⟨oc9, od9, .func (PySem.W.fnOf "alone" "alone" (defArgs s_alone) (defBody s_alone) (defScope s_alone) .none kV9 dc9 pm9 an9 cd9 ct9), sl9⟩) (c_9 : PySem.W.codeIn K cd9 "alone" = true) (k_9 : PySem.W.keepIn K (.ref a9) = true)
    (a_10 : PySem.W.nsIn K mainGlobals "gathered" = some (some (.ref a10))) (l_10 : K.lookup a10 = some ⟨oc10, od10, .func (PySem.W.fnOf "gathered" "gathered" (defArgs s_gathered) (defBody s_gathered) (defScope s_gathered) .none kV10 dc10 pm10 an10 cd10 ct10), sl10⟩) (c_10 : PySem.W.codeIn K cd10 "gathered" = true) (k_10 : PySem.W.keepIn K (.ref a10) = true)
    (a_11 : PySem.W.nsIn K mainGlobals "need_alike" = some (some (.ref a11))) (l_11 : K.lookup a11 = some ⟨oc11, od11, .func (PySem.W.fnOf "need_alike" "need_alike" (defArgs s_need_alike) (defBody s_need_alike) (defScope s_need_alike) .none kV11 dc11 pm11 an11 cd11 ct11), sl11⟩) (c_11 : PySem.W.codeIn K cd11 "need_alike" = true) (k_11 : PySem.W.keepIn K (.ref a11) = true)
    (a_12 : PySem.W.nsIn K mainGlobals "put_freely" = some (some (.ref a12))) (l_12 : K.lookup a12 = some ⟨oc12, od12, .func (PySem.W.fnOf "put_freely" "put_freely" (defArgs s_put_freely) (defBody s_put_freely) (defScope s_put_freely) .none kV12 dc12 pm12 an12 cd12 ct12), sl12⟩) (c_12 : PySem.W.codeIn K cd12 "put_freely" = true) (k_12 : PySem.W.keepIn K (.ref a12) = true)
    (a_13 : PySem.W.nsIn K mainGlobals "put" = some (some (.ref a13))) (l_13 : K.lookup a13 = some ⟨oc13, od13, .func (PySem.W.fnOf "put" "put" (defArgs s_put) (defBody s_put) (defScope s_put) .none kV13 dc13 pm13 an13 cd13 ct13), sl13⟩) (c_13 : PySem.W.codeIn K cd13 "put" = true) (k_13 : PySem.W.keepIn K (.ref a13) = true)
    (a_14 : PySem.W.nsIn K mainGlobals "after" = some (some (.ref a14))) (l_14 : K.lookup a14 = some ⟨oc14, od14, .func (PySem.W.fnOf "after" "after" (defArgs s_after) (defBody s_after) (defScope s_after) .none kV14 dc14 pm14 an14 cd14 ct14), sl14⟩) (c_14 : PySem.W.codeIn K cd14 "after" = true) (k_14 : PySem.W.keepIn K (.ref a14) = true)
    (a_15 : PySem.W.nsIn K mainGlobals "worth" = some (some (.ref a15))) (l_15 : K.lookup a15 = some ⟨oc15, od15, .func (PySem.W.fnOf "worth" "worth" (defArgs s_worth) (defBody s_worth) (defScope s_worth) .none kV15 dc15 pm15 an15 cd15 ct15), sl15⟩) (c_15 : PySem.W.codeIn K cd15 "worth" = true) (k_15 : PySem.W.keepIn K (.ref a15) = true)
    (a_16 : PySem.W.nsIn K mainGlobals "mean" = some (some (.ref a16))) (l_16 : K.lookup a16 = some ⟨oc16, od16, .func (PySem.W.fnOf "mean" "mean" (defArgs s_mean) (defBody s_mean) (defScope s_mean) .none kV16 dc16 pm16 an16 cd16 ct16), sl16⟩) (c_16 : PySem.W.codeIn K cd16 "mean" = true) (k_16 : PySem.W.keepIn K (.ref a16) = true)
    (a_17 : PySem.W.nsIn K mainGlobals "by_sums" = some (some (.ref a17))) (l_17 : K.lookup a17 = some ⟨oc17, od17, .func (PySem.W.fnOf "by_sums" "by_sums" (defArgs s_by_sums) (defBody s_by_sums) (defScope s_by_sums) .none kV17 dc17 pm17 an17 cd17 ct17), sl17⟩) (c_17 : PySem.W.codeIn K cd17 "by_sums" = true) (k_17 : PySem.W.keepIn K (.ref a17) = true)
    (a_18 : PySem.W.nsIn K mainGlobals "power" = some (some (.ref a18))) (l_18 : K.lookup a18 = some ⟨oc18, od18, .func (PySem.W.fnOf "power" "power" (defArgs s_power) (defBody s_power) (defScope s_power) .none kV18 dc18 pm18 an18 cd18 ct18), sl18⟩) (c_18 : PySem.W.codeIn K cd18 "power" = true) (k_18 : PySem.W.keepIn K (.ref a18) = true)
    (a_19 : PySem.W.nsIn K mainGlobals "sets_of" = some (some (.ref a19))) (l_19 : K.lookup a19 = some ⟨oc19, od19, .func (PySem.W.fnOf "sets_of" "sets_of" (defArgs s_sets_of) (defBody s_sets_of) (defScope s_sets_of) .none kV19 dc19 pm19 an19 cd19 ct19), sl19⟩) (c_19 : PySem.W.codeIn K cd19 "sets_of" = true) (k_19 : PySem.W.keepIn K (.ref a19) = true)
    (a_20 : PySem.W.nsIn K mainGlobals "drawn" = some (some (.ref a20))) (l_20 : K.lookup a20 = some ⟨oc20, od20, .func (PySem.W.fnOf "drawn" "drawn" (defArgs s_drawn) (defBody s_drawn) (defScope s_drawn) .none kV20 dc20 pm20 an20 cd20 ct20), sl20⟩) (c_20 : PySem.W.codeIn K cd20 "drawn" = true) (k_20 : PySem.W.keepIn K (.ref a20) = true)
    (a_21 : PySem.W.nsIn K mainGlobals "unlike" = some (some (.ref a21))) (l_21 : K.lookup a21 = some ⟨oc21, od21, .func (PySem.W.fnOf "unlike" "unlike" (defArgs s_unlike) (defBody s_unlike) (defScope s_unlike) .none kV21 dc21 pm21 an21 cd21 ct21), sl21⟩) (c_21 : PySem.W.codeIn K cd21 "unlike" = true) (k_21 : PySem.W.keepIn K (.ref a21) = true)
    (a_22 : PySem.W.nsIn K mainGlobals "_law_pen" = some (some (.ref a22))) (l_22 : K.lookup a22 = some ⟨oc22, od22, .func (PySem.W.fnOf "_law_pen" "_law_pen" (defArgs s__law_pen) (defBody s__law_pen) (defScope s__law_pen) .none kV22 dc22 pm22 an22 cd22 ct22), sl22⟩) (c_22 : PySem.W.codeIn K cd22 "_law_pen" = true) (k_22 : PySem.W.keepIn K (.ref a22) = true)
    (a_23 : PySem.W.nsIn K mainGlobals "_law_draw" = some (some (.ref a23))) (l_23 : K.lookup a23 = some ⟨oc23, od23, .func (PySem.W.fnOf "_law_draw" "_law_draw" (defArgs s__law_draw) (defBody s__law_draw) (defScope s__law_draw) .none kV23 dc23 pm23 an23 cd23 ct23), sl23⟩) (c_23 : PySem.W.codeIn K cd23 "_law_draw" = true) (k_23 : PySem.W.keepIn K (.ref a23) = true)
    (a_24 : PySem.W.nsIn K mainGlobals "_law_measure" = some (some (.ref a24))) (l_24 : K.lookup a24 = some ⟨oc24, od24, .func (PySem.W.fnOf "_law_measure" "_law_measure" (defArgs s__law_measure) (defBody s__law_measure) (defScope s__law_measure) .none kV24 dc24 pm24 an24 cd24 ct24), sl24⟩) (c_24 : PySem.W.codeIn K cd24 "_law_measure" = true) (k_24 : PySem.W.keepIn K (.ref a24) = true)
    (a_25 : PySem.W.nsIn K mainGlobals "_law_lowest" = some (some (.ref a25))) (l_25 : K.lookup a25 = some ⟨oc25, od25, .func (PySem.W.fnOf "_law_lowest" "_law_lowest" (defArgs s__law_lowest) (defBody s__law_lowest) (defScope s__law_lowest) .none kV25 dc25 pm25 an25 cd25 ct25), sl25⟩) (c_25 : PySem.W.codeIn K cd25 "_law_lowest" = true) (k_25 : PySem.W.keepIn K (.ref a25) = true)
    (a_26 : PySem.W.nsIn K mainGlobals "_law_weights" = some (some (.ref a26))) (l_26 : K.lookup a26 = some ⟨oc26, od26, .func (PySem.W.fnOf "_law_weights" "_law_weights" (defArgs s__law_weights) (defBody s__law_weights) (defScope s__law_weights) .none kV26 dc26 pm26 an26 cd26 ct26), sl26⟩) (c_26 : PySem.W.codeIn K cd26 "_law_weights" = true) (k_26 : PySem.W.keepIn K (.ref a26) = true)
    (a_27 : PySem.W.nsIn K mainGlobals "_law_rule" = some (some (.ref a27))) (l_27 : K.lookup a27 = some ⟨oc27, od27, .func (PySem.W.fnOf "_law_rule" "_law_rule" (defArgs s__law_rule) (defBody s__law_rule) (defScope s__law_rule) .none kV27 dc27 pm27 an27 cd27 ct27), sl27⟩) (c_27 : PySem.W.codeIn K cd27 "_law_rule" = true) (k_27 : PySem.W.keepIn K (.ref a27) = true)
    (a_28 : PySem.W.nsIn K mainGlobals "_law_spread" = some (some (.ref a28))) (l_28 : K.lookup a28 = some ⟨oc28, od28, .func (PySem.W.fnOf "_law_spread" "_law_spread" (defArgs s__law_spread) (defBody s__law_spread) (defScope s__law_spread) .none kV28 dc28 pm28 an28 cd28 ct28), sl28⟩) (c_28 : PySem.W.codeIn K cd28 "_law_spread" = true) (k_28 : PySem.W.keepIn K (.ref a28) = true)
    (a_29 : PySem.W.nsIn K mainGlobals "_law_rows" = some (some (.ref a29))) (l_29 : K.lookup a29 = some ⟨oc29, od29, .func (PySem.W.fnOf "_law_rows" "_law_rows" (defArgs s__law_rows) (defBody s__law_rows) (defScope s__law_rows) .none kV29 dc29 pm29 an29 cd29 ct29), sl29⟩) (c_29 : PySem.W.codeIn K cd29 "_law_rows" = true) (k_29 : PySem.W.keepIn K (.ref a29) = true)
    (a_30 : PySem.W.nsIn K mainGlobals "_law_sets" = some (some (.ref a30))) (l_30 : K.lookup a30 = some ⟨oc30, od30, .func (PySem.W.fnOf "_law_sets" "_law_sets" (defArgs s__law_sets) (defBody s__law_sets) (defScope s__law_sets) .none kV30 dc30 pm30 an30 cd30 ct30), sl30⟩) (c_30 : PySem.W.codeIn K cd30 "_law_sets" = true) (k_30 : PySem.W.keepIn K (.ref a30) = true)
    (a_31 : PySem.W.nsIn K mainGlobals "_law_goal" = some (some (.ref a31))) (l_31 : K.lookup a31 = some ⟨oc31, od31, .func (PySem.W.fnOf "_law_goal" "_law_goal" (defArgs s__law_goal) (defBody s__law_goal) (defScope s__law_goal) .none kV31 dc31 pm31 an31 cd31 ct31), sl31⟩) (c_31 : PySem.W.codeIn K cd31 "_law_goal" = true) (k_31 : PySem.W.keepIn K (.ref a31) = true)
    (a_32 : PySem.W.nsIn K mainGlobals "_law_counts" = some (some (.ref a32))) (l_32 : K.lookup a32 = some ⟨oc32, od32, .func (PySem.W.fnOf "_law_counts" "_law_counts" (defArgs s__law_counts) (defBody s__law_counts) (defScope s__law_counts) .none kV32 dc32 pm32 an32 cd32 ct32), sl32⟩) (c_32 : PySem.W.codeIn K cd32 "_law_counts" = true) (k_32 : PySem.W.keepIn K (.ref a32) = true)
    (a_33 : PySem.W.nsIn K mainGlobals "_law_by_ranks" = some (some (.ref a33))) (l_33 : K.lookup a33 = some ⟨oc33, od33, .func (PySem.W.fnOf "_law_by_ranks" "_law_by_ranks" (defArgs s__law_by_ranks) (defBody s__law_by_ranks) (defScope s__law_by_ranks) .none kV33 dc33 pm33 an33 cd33 ct33), sl33⟩) (c_33 : PySem.W.codeIn K cd33 "_law_by_ranks" = true) (k_33 : PySem.W.keepIn K (.ref a33) = true)
    (a_34 : PySem.W.nsIn K mainGlobals "_law_few" = some (some (.ref a34))) (l_34 : K.lookup a34 = some ⟨oc34, od34, .func (PySem.W.fnOf "_law_few" "_law_few" (defArgs s__law_few) (defBody s__law_few) (defScope s__law_few) .none kV34 dc34 pm34 an34 cd34 ct34), sl34⟩) (c_34 : PySem.W.codeIn K cd34 "_law_few" = true) (k_34 : PySem.W.keepIn K (.ref a34) = true)
    (a_35 : PySem.W.nsIn K mainGlobals "_law_right" = some (some (.ref a35))) (l_35 : K.lookup a35 = some ⟨oc35, od35, .func (PySem.W.fnOf "_law_right" "_law_right" (defArgs s__law_right) (defBody s__law_right) (defScope s__law_right) .none kV35 dc35 pm35 an35 cd35 ct35), sl35⟩) (c_35 : PySem.W.codeIn K cd35 "_law_right" = true) (k_35 : PySem.W.keepIn K (.ref a35) = true)
    (a_36 : PySem.W.nsIn K mainGlobals "law" = some (some (.ref a36))) (l_36 : K.lookup a36 = some ⟨oc36, od36, .func (PySem.W.fnOf "law" "law" (defArgs s_law) (defBody s_law) (defScope s_law) .none kV36 dc36 pm36 an36 cd36 ct36), sl36⟩) (c_36 : PySem.W.codeIn K cd36 "law" = true) (k_36 : PySem.W.keepIn K (.ref a36) = true)
    (z_abs : PySem.W.nsIn K mainGlobals "abs" = some none)
    (z_enumerate : PySem.W.nsIn K mainGlobals "enumerate" = some none)
    (z_int : PySem.W.nsIn K mainGlobals "int" = some none)
    (z_len : PySem.W.nsIn K mainGlobals "len" = some none)
    (z_list : PySem.W.nsIn K mainGlobals "list" = some none)
    (z_min : PySem.W.nsIn K mainGlobals "min" = some none)
    (z_range : PySem.W.nsIn K mainGlobals "range" = some none)
    (z_repr : PySem.W.nsIn K mainGlobals "repr" = some none)
    (z_set : PySem.W.nsIn K mainGlobals "set" = some none)
    (z_sorted : PySem.W.nsIn K mainGlobals "sorted" = some none)
    (z_sum : PySem.W.nsIn K mainGlobals "sum" = some none)
    (z_tuple : PySem.W.nsIn K mainGlobals "tuple" = some none)
    (xa_NoShare : PySem.W.nsIn K mainGlobals "NoShare" = some (some (.ref xNoShare))) (xx_NoShare : PySem.W.excIn K xNoShare [.type "ValueError", .type "Exception", .type "BaseException", .type "object"] "ValueError.__new__" = true) (xk_NoShare : PySem.W.keepIn K (.ref xNoShare) = true) (xb_NoShare : PySem.W.subIn K (.ref xNoShare) (.type "BaseException") = some true) (xt_NoShare : PySem.W.typeIn K (.ref xNoShare) = some (.type "type"))
    (xa_TooMany : PySem.W.nsIn K mainGlobals "TooMany" = some (some (.ref xTooMany))) (xx_TooMany : PySem.W.excIn K xTooMany [.type "ValueError", .type "Exception", .type "BaseException", .type "object"] "ValueError.__new__" = true) (xk_TooMany : PySem.W.keepIn K (.ref xTooMany) = true) (xb_TooMany : PySem.W.subIn K (.ref xTooMany) (.type "BaseException") = some true) (xt_TooMany : PySem.W.typeIn K (.ref xTooMany) = some (.type "type"))
    (xa_Unlike : PySem.W.nsIn K mainGlobals "Unlike" = some (some (.ref xUnlike))) (xx_Unlike : PySem.W.excIn K xUnlike [.type "ValueError", .type "Exception", .type "BaseException", .type "object"] "ValueError.__new__" = true) (xk_Unlike : PySem.W.keepIn K (.ref xUnlike) = true) (xb_Unlike : PySem.W.subIn K (.ref xUnlike) (.type "BaseException") = some true) (xt_Unlike : PySem.W.typeIn K (.ref xUnlike) = some (.type "type"))
    (g_MOST_LOADS : PySem.W.nsIn K mainGlobals "MOST_LOADS" = some (some (.int 60 t_MOST_LOADS)))
    : ∃ fd : FuncData, (∀ (s : Shared) (v : Value), BindsTo s fd ⟨[v], []⟩ [("_law_script", v)]) ∧ ∀ base : Heap, K.In base → base.Ns mainGlobals mg → FnG l.prog w K mg base 9 fa fd ["_law_script"] (spLaw K f_law []) := by
  have e := hfa.symm.trans (PySem.W.mg_of X G a_36)
  have T : Txt K mg (ecOf mg [] []) := ⟨PySem.W.mg_none_of X G z_abs, PySem.W.mg_none_of X G z_enumerate, PySem.W.mg_none_of X G z_int, PySem.W.mg_none_of X G z_len, PySem.W.mg_none_of X G z_list, PySem.W.mg_none_of X G z_min, PySem.W.mg_none_of X G z_range, PySem.W.mg_none_of X G z_repr, PySem.W.mg_none_of X G z_set, PySem.W.mg_none_of X G z_sorted, PySem.W.mg_none_of X G z_sum, PySem.W.mg_none_of X G z_tuple, ⟨exc_g (PySem.W.mg_of X G xa_NoShare), exc_e (P := fun a => PySem.W.excIn K a [.type "ValueError", .type "Exception", .type "BaseException", .type "object"] "ValueError.__new__" = true) (PySem.W.mg_of X G xa_NoShare) xx_NoShare, exc_e (P := fun a => PySem.W.keepIn K (.ref a) = true) (PySem.W.mg_of X G xa_NoShare) xk_NoShare, exc_e (P := fun a => PySem.W.subIn K (.ref a) (.type "BaseException") = some true) (PySem.W.mg_of X G xa_NoShare) xb_NoShare, exc_e (P := fun a => PySem.W.typeIn K (.ref a) = some (.type "type")) (PySem.W.mg_of X G xa_NoShare) xt_NoShare⟩, ⟨exc_g (PySem.W.mg_of X G xa_TooMany), exc_e (P := fun a => PySem.W.excIn K a [.type "ValueError", .type "Exception", .type "BaseException", .type "object"] "ValueError.__new__" = true) (PySem.W.mg_of X G xa_TooMany) xx_TooMany, exc_e (P := fun a => PySem.W.keepIn K (.ref a) = true) (PySem.W.mg_of X G xa_TooMany) xk_TooMany, exc_e (P := fun a => PySem.W.subIn K (.ref a) (.type "BaseException") = some true) (PySem.W.mg_of X G xa_TooMany) xb_TooMany, exc_e (P := fun a => PySem.W.typeIn K (.ref a) = some (.type "type")) (PySem.W.mg_of X G xa_TooMany) xt_TooMany⟩, ⟨exc_g (PySem.W.mg_of X G xa_Unlike), exc_e (P := fun a => PySem.W.excIn K a [.type "ValueError", .type "Exception", .type "BaseException", .type "object"] "ValueError.__new__" = true) (PySem.W.mg_of X G xa_Unlike) xx_Unlike, exc_e (P := fun a => PySem.W.keepIn K (.ref a) = true) (PySem.W.mg_of X G xa_Unlike) xk_Unlike, exc_e (P := fun a => PySem.W.subIn K (.ref a) (.type "BaseException") = some true) (PySem.W.mg_of X G xa_Unlike) xb_Unlike, exc_e (P := fun a => PySem.W.typeIn K (.ref a) = some (.type "type")) (PySem.W.mg_of X G xa_Unlike) xt_Unlike⟩, ⟨_, PySem.W.mg_of X G g_MOST_LOADS⟩, bas_bot⟩
  have D0 : DefF K mg "measure" s_measure ["a", "b"] := defF_mk (st := s_measure) (PySem.W.mg_of X G a_0) l_0 c_0 k_0 fun _ _ _ _ _ _ us hl => match us, hl with | [_, _], _ => rfl
  have D1 : DefF K mg "share" s_share ["top", "bottom"] := defF_mk (st := s_share) (PySem.W.mg_of X G a_1) l_1 c_1 k_1 fun _ _ _ _ _ _ us hl => match us, hl with | [_, _], _ => rfl
  have D2 : DefF K mg "plus" s_plus ["a", "b"] := defF_mk (st := s_plus) (PySem.W.mg_of X G a_2) l_2 c_2 k_2 fun _ _ _ _ _ _ us hl => match us, hl with | [_, _], _ => rfl
  have D3 : DefF K mg "minus" s_minus ["a", "b"] := defF_mk (st := s_minus) (PySem.W.mg_of X G a_3) l_3 c_3 k_3 fun _ _ _ _ _ _ us hl => match us, hl with | [_, _], _ => rfl
  have D4 : DefF K mg "times" s_times ["a", "b"] := defF_mk (st := s_times) (PySem.W.mg_of X G a_4) l_4 c_4 k_4 fun _ _ _ _ _ _ us hl => match us, hl with | [_, _], _ => rfl
  have D5 : DefF K mg "total" s_total ["some"] := defF_mk (st := s_total) (PySem.W.mg_of X G a_5) l_5 c_5 k_5 fun _ _ _ _ _ _ us hl => match us, hl with | [_], _ => rfl
  have D6 : DefF K mg "sorted_load" s_sorted_load ["numbers"] := defF_mk (st := s_sorted_load) (PySem.W.mg_of X G a_6) l_6 c_6 k_6 fun _ _ _ _ _ _ us hl => match us, hl with | [_], _ => rfl
  have D7 : DefF K mg "changed_at" s_changed_at ["load", "rank", "more"] := defF_mk (st := s_changed_at) (PySem.W.mg_of X G a_7) l_7 c_7 k_7 fun _ _ _ _ _ _ us hl => match us, hl with | [_, _, _], _ => rfl
  have D8 : DefF K mg "put_at" s_put_at ["load", "rank"] := defF_mk (st := s_put_at) (PySem.W.mg_of X G a_8) l_8 c_8 k_8 fun _ _ _ _ _ _ us hl => match us, hl with | [_, _], _ => rfl
  have D9 : DefF K mg "alone" s_alone ["load"] := defF_mk (st := s_alone) (PySem.W.mg_of X G a_9) l_9 c_9 k_9 fun _ _ _ _ _ _ us hl => match us, hl with | [_], _ => rfl
  have D10 : DefF K mg "gathered" s_gathered ["found"] := defF_mk (st := s_gathered) (PySem.W.mg_of X G a_10) l_10 c_10 k_10 fun _ _ _ _ _ _ us hl => match us, hl with | [_], _ => rfl
  have D11 : DefF K mg "need_alike" s_need_alike ["rule", "spread"] := defF_mk (st := s_need_alike) (PySem.W.mg_of X G a_11) l_11 c_11 k_11 fun _ _ _ _ _ _ us hl => match us, hl with | [_, _], _ => rfl
  have D12 : DefF K mg "put_freely" s_put_freely ["rule", "spread"] := defF_mk (st := s_put_freely) (PySem.W.mg_of X G a_12) l_12 c_12 k_12 fun _ _ _ _ _ _ us hl => match us, hl with | [_, _], _ => rfl
  have D13 : DefF K mg "put" s_put ["rule", "spread"] := defF_mk (st := s_put) (PySem.W.mg_of X G a_13) l_13 c_13 k_13 fun _ _ _ _ _ _ us hl => match us, hl with | [_, _], _ => rfl
  have D14 : DefF K mg "after" s_after ["rule", "spread", "many"] := defF_mk (st := s_after) (PySem.W.mg_of X G a_14) l_14 c_14 k_14 fun _ _ _ _ _ _ us hl => match us, hl with | [_, _, _], _ => rfl
  have D15 : DefF K mg "worth" s_worth ["load", "word"] := defF_mk (st := s_worth) (PySem.W.mg_of X G a_15) l_15 c_15 k_15 fun _ _ _ _ _ _ us hl => match us, hl with | [_, _], _ => rfl
  have D16 : DefF K mg "mean" s_mean ["spread", "word"] := defF_mk (st := s_mean) (PySem.W.mg_of X G a_16) l_16 c_16 k_16 fun _ _ _ _ _ _ us hl => match us, hl with | [_, _], _ => rfl
  have D17 : DefF K mg "by_sums" s_by_sums ["sums"] := defF_mk (st := s_by_sums) (PySem.W.mg_of X G a_17) l_17 c_17 k_17 fun _ _ _ _ _ _ us hl => match us, hl with | [_], _ => rfl
  have D18 : DefF K mg "power" s_power ["number", "often"] := defF_mk (st := s_power) (PySem.W.mg_of X G a_18) l_18 c_18 k_18 fun _ _ _ _ _ _ us hl => match us, hl with | [_, _], _ => rfl
  have D19 : DefF K mg "sets_of" s_sets_of ["n", "many"] := defF_mk (st := s_sets_of) (PySem.W.mg_of X G a_19) l_19 c_19 k_19 fun _ _ _ _ _ _ us hl => match us, hl with | [_, _], _ => rfl
  have D20 : DefF K mg "drawn" s_drawn ["n", "many"] := defF_mk (st := s_drawn) (PySem.W.mg_of X G a_20) l_20 c_20 k_20 fun _ _ _ _ _ _ us hl => match us, hl with | [_, _], _ => rfl
  have D21 : DefF K mg "unlike" s_unlike ["n", "many"] := defF_mk (st := s_unlike) (PySem.W.mg_of X G a_21) l_21 c_21 k_21 fun _ _ _ _ _ _ us hl => match us, hl with | [_, _], _ => rfl
  have D22 : DefF K mg "_law_pen" s__law_pen ["_law_script"] := defF_mk (st := s__law_pen) (PySem.W.mg_of X G a_22) l_22 c_22 k_22 fun _ _ _ _ _ _ us hl => match us, hl with | [_], _ => rfl
  have D23 : DefF K mg "_law_draw" s__law_draw ["_law_pen_here", "_law_many"] := defF_mk (st := s__law_draw) (PySem.W.mg_of X G a_23) l_23 c_23 k_23 fun _ _ _ _ _ _ us hl => match us, hl with | [_, _], _ => rfl
  have D24 : DefF K mg "_law_measure" s__law_measure ["_law_a", "_law_b"] := defF_mk (st := s__law_measure) (PySem.W.mg_of X G a_24) l_24 c_24 k_24 fun _ _ _ _ _ _ us hl => match us, hl with | [_, _], _ => rfl
  have D25 : DefF K mg "_law_lowest" s__law_lowest ["_law_top", "_law_bottom"] := defF_mk (st := s__law_lowest) (PySem.W.mg_of X G a_25) l_25 c_25 k_25 fun _ _ _ _ _ _ us hl => match us, hl with | [_, _], _ => rfl
  have D26 : DefF K mg "_law_weights" s__law_weights ["_law_pen_here", "_law_n"] := defF_mk (st := s__law_weights) (PySem.W.mg_of X G a_26) l_26 c_26 k_26 fun _ _ _ _ _ _ us hl => match us, hl with | [_, _], _ => rfl
  have D27 : DefF K mg "_law_rule" s__law_rule ["_law_weights_here"] := defF_mk (st := s__law_rule) (PySem.W.mg_of X G a_27) l_27 c_27 k_27 fun _ _ _ _ _ _ us hl => match us, hl with | [_], _ => rfl
  have D28 : DefF K mg "_law_spread" s__law_spread ["_law_found"] := defF_mk (st := s__law_spread) (PySem.W.mg_of X G a_28) l_28 c_28 k_28 fun _ _ _ _ _ _ us hl => match us, hl with | [_], _ => rfl
  have D29 : DefF K mg "_law_rows" s__law_rows ["_law_some", "_law_many"] := defF_mk (st := s__law_rows) (PySem.W.mg_of X G a_29) l_29 c_29 k_29 fun _ _ _ _ _ _ us hl => match us, hl with | [_, _], _ => rfl
  have D30 : DefF K mg "_law_sets" s__law_sets ["_law_n", "_law_many"] := defF_mk (st := s__law_sets) (PySem.W.mg_of X G a_30) l_30 c_30 k_30 fun _ _ _ _ _ _ us hl => match us, hl with | [_, _], _ => rfl
  have D31 : DefF K mg "_law_goal" s__law_goal ["_law_stand", "_law_draw_here", "_law_last"] := defF_mk (st := s__law_goal) (PySem.W.mg_of X G a_31) l_31 c_31 k_31 fun _ _ _ _ _ _ us hl => match us, hl with | [_, _, _], _ => rfl
  have D32 : DefF K mg "_law_counts" s__law_counts ["_law_stand", "_law_draws", "_law_many", "_law_last"] := defF_mk (st := s__law_counts) (PySem.W.mg_of X G a_32) l_32 c_32 k_32 fun _ _ _ _ _ _ us hl => match us, hl with | [_, _, _, _], _ => rfl
  have D33 : DefF K mg "_law_by_ranks" s__law_by_ranks ["_law_load_here", "_law_weights_here", "_law_many"] := defF_mk (st := s__law_by_ranks) (PySem.W.mg_of X G a_33) l_33 c_33 k_33 fun _ _ _ _ _ _ us hl => match us, hl with | [_, _, _], _ => rfl
  have D34 : DefF K mg "_law_few" s__law_few ["_law_n", "_law_many"] := defF_mk (st := s__law_few) (PySem.W.mg_of X G a_34) l_34 c_34 k_34 fun _ _ _ _ _ _ us hl => match us, hl with | [_, _], _ => rfl
  have D35 : DefF K mg "_law_right" s__law_right ["_law_told", "_law_found"] := defF_mk (st := s__law_right) (PySem.W.mg_of X G a_35) l_35 c_35 k_35 fun _ _ _ _ _ _ us hl => match us, hl with | [_, _], _ => rfl
  have D36 : DefF K mg "law" s_law ["_law_script"] := defF_mk (st := s_law) (PySem.W.mg_of X G a_36) l_36 c_36 k_36 fun _ _ _ _ _ _ us hl => match us, hl with | [_], _ => rfl
  refine spLaw_of (ec := (ecOf mg [] [])) rfl D36 hfa fun base _ _ => ?_
  have C0 := ok_measure (P := l.prog) (wo := w) (base := base) T D0 
  have C1 := ok_share (P := l.prog) (wo := w) (base := base) T D1 C0
  have C2 := ok_plus (P := l.prog) (wo := w) (base := base) T D2 C1
  have C3 := ok_minus (P := l.prog) (wo := w) (base := base) T D3 C1
  have C4 := ok_times (P := l.prog) (wo := w) (base := base) T D4 C1
  have C5 := ok_total (P := l.prog) (wo := w) (base := base) T D5 C2
  have C6 := ok_sorted_load (P := l.prog) (wo := w) (base := base) T D6 
  have C7 := ok_changed_at (P := l.prog) (wo := w) (base := base) T D7 C6
  have C8 := ok_put_at (P := l.prog) (wo := w) (base := base) T D8 C7
  have C9 := ok_alone (P := l.prog) (wo := w) (base := base) T D9 
  have C10 := ok_gathered (P := l.prog) (wo := w) (base := base) T D10 C5
  have C11 := ok_need_alike (P := l.prog) (wo := w) (base := base) T D11 
  have C12 := ok_put_freely (P := l.prog) (wo := w) (base := base) T D12 C4 C8 C10
  have C13 := ok_put (P := l.prog) (wo := w) (base := base) T D13 C11 C12
  have C14 := ok_after (P := l.prog) (wo := w) (base := base) T D14 C11 C13
  have C15 := ok_worth (P := l.prog) (wo := w) (base := base) T D15 
  have C16 := ok_mean (P := l.prog) (wo := w) (base := base) T D16 C4 C5 C15
  have C17 := ok_by_sums (P := l.prog) (wo := w) (base := base) T D17 C3
  have C18 := ok_power (P := l.prog) (wo := w) (base := base) T D18 
  have C19 := ok_sets_of (P := l.prog) (wo := w) (base := base) T D19 
  have C20 := ok_drawn (P := l.prog) (wo := w) (base := base) T D20 C1 C17 C18
  have C21 := ok_unlike (P := l.prog) (wo := w) (base := base) T D21 C1 C17 C19
  have C22 := ok__law_pen (P := l.prog) (wo := w) (base := base) T D22 
  have C23 := ok__law_draw (P := l.prog) (wo := w) (base := base) T D23 
  have C24 := ok__law_measure (P := l.prog) (wo := w) (base := base) T D24 
  have C25 := ok__law_lowest (P := l.prog) (wo := w) (base := base) T D25 C24
  have C26 := ok__law_weights (P := l.prog) (wo := w) (base := base) T D26 C23
  have C27 := ok__law_rule (P := l.prog) (wo := w) (base := base) T D27 C25
  have C28 := ok__law_spread (P := l.prog) (wo := w) (base := base) T D28 C25
  have C29 := ok__law_rows (P := l.prog) (wo := w) (base := base) T D29 
  have C30 := ok__law_sets (P := l.prog) (wo := w) (base := base) T D30 C29
  have C31 := ok__law_goal (P := l.prog) (wo := w) (base := base) T D31 
  have C32 := ok__law_counts (P := l.prog) (wo := w) (base := base) T D32 C29 C31
  have C33 := ok__law_by_ranks (P := l.prog) (wo := w) (base := base) T D33 C29
  have C34 := ok__law_few (P := l.prog) (wo := w) (base := base) T D34 
  have C35 := ok__law_right (P := l.prog) (wo := w) (base := base) T D35 C16 C25 C28
  have C36 := ok_law (P := l.prog) (wo := w) (base := base) T D36 C9 C14 C20 C21 C22 C23 C26 C27 C29 C30 C32 C33 C34 C35
  exact C36
end Vm
open PySem PySem.W PyProof.Rows
set_option maxRecDepth 100000 in
set_option maxHeartbeats 0 in
theorem PySem.Challenge.cw_emptierbox_k22_whole_all_rows_of_draws_holds : PySem.Challenge.rw_emptierbox_k22_whole_all_rows_of_draws.Holds := by
  w_on; o_law; k_head; (case hw => w_witness2)
  k_fill
  refine Vm.walkG (l := PySem.Challenge.rw_emptierbox_k22_whole_all_rows_of_draws) (n := 63) (k := 9) (f := Vm.f_law) rfl (by decide) rfl ⟨rfl, by decide, by decide⟩ (fun w h Y => PySem.W.kIn_of Y) ?F (fun ns hl => Vm.law_true ns hl)
  case F =>
    intro w mg fa h KX G hmg
    refine' Vm.all_mk KX G hmg ?a_0 ?l_0 ?c_0 ?k_0 ?a_1 ?l_1 ?c_1 ?k_1 ?a_2 ?l_2 ?c_2 ?k_2 ?a_3 ?l_3 ?c_3 ?k_3 ?a_4 ?l_4 ?c_4 ?k_4 ?a_5 ?l_5 ?c_5 ?k_5 ?a_6 ?l_6 ?c_6 ?k_6 ?a_7 ?l_7 ?c_7 ?k_7 ?a_8 ?l_8 ?c_8 ?k_8 ?a_9 ?l_9 ?c_9 ?k_9 ?a_10 ?l_10 ?c_10 ?k_10 ?a_11 ?l_11 ?c_11 ?k_11 ?a_12 ?l_12 ?c_12 ?k_12 ?a_13 ?l_13 ?c_13 ?k_13 ?a_14 ?l_14 ?c_14 ?k_14 ?a_15 ?l_15 ?c_15 ?k_15 ?a_16 ?l_16 ?c_16 ?k_16 ?a_17 ?l_17 ?c_17 ?k_17 ?a_18 ?l_18 ?c_18 ?k_18 ?a_19 ?l_19 ?c_19 ?k_19 ?a_20 ?l_20 ?c_20 ?k_20 ?a_21 ?l_21 ?c_21 ?k_21 ?a_22 ?l_22 ?c_22 ?k_22 ?a_23 ?l_23 ?c_23 ?k_23 ?a_24 ?l_24 ?c_24 ?k_24 ?a_25 ?l_25 ?c_25 ?k_25 ?a_26 ?l_26 ?c_26 ?k_26 ?a_27 ?l_27 ?c_27 ?k_27 ?a_28 ?l_28 ?c_28 ?k_28 ?a_29 ?l_29 ?c_29 ?k_29 ?a_30 ?l_30 ?c_30 ?k_30 ?a_31 ?l_31 ?c_31 ?k_31 ?a_32 ?l_32 ?c_32 ?k_32 ?a_33 ?l_33 ?c_33 ?k_33 ?a_34 ?l_34 ?c_34 ?k_34 ?a_35 ?l_35 ?c_35 ?k_35 ?a_36 ?l_36 ?c_36 ?k_36 ?z_abs ?z_enumerate ?z_int ?z_len ?z_list ?z_min ?z_range ?z_repr ?z_set ?z_sorted ?z_sum ?z_tuple ?xa_NoShare ?xx_NoShare ?xk_NoShare ?xb_NoShare ?xt_NoShare ?xa_TooMany ?xx_TooMany ?xk_TooMany ?xb_TooMany ?xt_TooMany ?xa_Unlike ?xx_Unlike ?xk_Unlike ?xb_Unlike ?xt_Unlike ?g_MOST_LOADS
    (case a_0 => k_is)
    (case l_0 => k_is)
    (case c_0 => k_is)
    (case k_0 => k_is)
    (case a_1 => k_is)
    (case l_1 => k_is)
    (case c_1 => k_is)
    (case k_1 => k_is)
    (case a_2 => k_is)
    (case l_2 => k_is)
    (case c_2 => k_is)
    (case k_2 => k_is)
    (case a_3 => k_is)
    (case l_3 => k_is)
    (case c_3 => k_is)
    (case k_3 => k_is)
    (case a_4 => k_is)
    (case l_4 => k_is)
    (case c_4 => k_is)
    (case k_4 => k_is)
    (case a_5 => k_is)
    (case l_5 => k_is)
    (case c_5 => k_is)
    (case k_5 => k_is)
    (case a_6 => k_is)
    (case l_6 => k_is)
    (case c_6 => k_is)
    (case k_6 => k_is)
    (case a_7 => k_is)
    (case l_7 => k_is)
    (case c_7 => k_is)
    (case k_7 => k_is)
    (case a_8 => k_is)
    (case l_8 => k_is)
    (case c_8 => k_is)
    (case k_8 => k_is)
    (case a_9 => k_is)
    (case l_9 => k_is)
    (case c_9 => k_is)
    (case k_9 => k_is)
    (case a_10 => k_is)
    (case l_10 => k_is)
    (case c_10 => k_is)
    (case k_10 => k_is)
    (case a_11 => k_is)
    (case l_11 => k_is)
    (case c_11 => k_is)
    (case k_11 => k_is)
    (case a_12 => k_is)
    (case l_12 => k_is)
    (case c_12 => k_is)
    (case k_12 => k_is)
    (case a_13 => k_is)
    (case l_13 => k_is)
    (case c_13 => k_is)
    (case k_13 => k_is)
    (case a_14 => k_is)
    (case l_14 => k_is)
    (case c_14 => k_is)
    (case k_14 => k_is)
    (case a_15 => k_is)
    (case l_15 => k_is)
    (case c_15 => k_is)
    (case k_15 => k_is)
    (case a_16 => k_is)
    (case l_16 => k_is)
    (case c_16 => k_is)
    (case k_16 => k_is)
    (case a_17 => k_is)
    (case l_17 => k_is)
    (case c_17 => k_is)
    (case k_17 => k_is)
    (case a_18 => k_is)
    (case l_18 => k_is)
    (case c_18 => k_is)
    (case k_18 => k_is)
    (case a_19 => k_is)
    (case l_19 => k_is)
    (case c_19 => k_is)
    (case k_19 => k_is)
    (case a_20 => k_is)
    (case l_20 => k_is)
    (case c_20 => k_is)
    (case k_20 => k_is)
    (case a_21 => k_is)
    (case l_21 => k_is)
    (case c_21 => k_is)
    (case k_21 => k_is)
    (case a_22 => k_is)
    (case l_22 => k_is)
    (case c_22 => k_is)
    (case k_22 => k_is)
    (case a_23 => k_is)
    (case l_23 => k_is)
    (case c_23 => k_is)
    (case k_23 => k_is)
    (case a_24 => k_is)
    (case l_24 => k_is)
    (case c_24 => k_is)
    (case k_24 => k_is)
    (case a_25 => k_is)
    (case l_25 => k_is)
    (case c_25 => k_is)
    (case k_25 => k_is)
    (case a_26 => k_is)
    (case l_26 => k_is)
    (case c_26 => k_is)
    (case k_26 => k_is)
    (case a_27 => k_is)
    (case l_27 => k_is)
    (case c_27 => k_is)
    (case k_27 => k_is)
    (case a_28 => k_is)
    (case l_28 => k_is)
    (case c_28 => k_is)
    (case k_28 => k_is)
    (case a_29 => k_is)
    (case l_29 => k_is)
    (case c_29 => k_is)
    (case k_29 => k_is)
    (case a_30 => k_is)
    (case l_30 => k_is)
    (case c_30 => k_is)
    (case k_30 => k_is)
    (case a_31 => k_is)
    (case l_31 => k_is)
    (case c_31 => k_is)
    (case k_31 => k_is)
    (case a_32 => k_is)
    (case l_32 => k_is)
    (case c_32 => k_is)
    (case k_32 => k_is)
    (case a_33 => k_is)
    (case l_33 => k_is)
    (case c_33 => k_is)
    (case k_33 => k_is)
    (case a_34 => k_is)
    (case l_34 => k_is)
    (case c_34 => k_is)
    (case k_34 => k_is)
    (case a_35 => k_is)
    (case l_35 => k_is)
    (case c_35 => k_is)
    (case k_35 => k_is)
    (case a_36 => k_is)
    (case l_36 => k_is)
    (case c_36 => k_is)
    (case k_36 => k_is)
    (case z_abs => k_is)
    (case z_enumerate => k_is)
    (case z_int => k_is)
    (case z_len => k_is)
    (case z_list => k_is)
    (case z_min => k_is)
    (case z_range => k_is)
    (case z_repr => k_is)
    (case z_set => k_is)
    (case z_sorted => k_is)
    (case z_sum => k_is)
    (case z_tuple => k_is)
    (case xa_NoShare => k_is)
    (case xx_NoShare => k_exc)
    (case xk_NoShare => k_is)
    (case xb_NoShare => k_is)
    (case xt_NoShare => k_is)
    (case xa_TooMany => k_is)
    (case xx_TooMany => k_exc)
    (case xk_TooMany => k_is)
    (case xb_TooMany => k_is)
    (case xt_TooMany => k_is)
    (case xa_Unlike => k_is)
    (case xx_Unlike => k_exc)
    (case xk_Unlike => k_is)
    (case xb_Unlike => k_is)
    (case xt_Unlike => k_is)
    (case g_MOST_LOADS => k_is)
