import PyProof.Rows.All
import PyProof.Fits
import PyProof.Rules2
import PyProof.AssignAttr
import PyProof.FactsAll.str_0
import PyProof.Lay0
import PyProof.FactsLen
import PyProof.Methods
import PyProof.FactsAll.list_0
import PyProof.FactsAll.list_3
import PyProof.FactsAll.dict_0
import PyProof.FactsAll.dict_3
import PyProof.TupleIter
import PyProof.AutoIntOps
import PyProof.AutoListH
import PyProof.NoPylong
import PyProof.Rules3
import PyProof.ListIndex
import PyProof.SliceList
import PyProof.ForAny
import PyProof.CallRoads
import PyProof.CallType
import PyProof.Cells
import PyProof.ConsumeWalk
import PyProof.PassesOwn
import PyProof.StrWalks
import PyProof.CompFree
import PyProof.PureInt
import PyProof.Conv_int_bool
import PyProof.DefCall
import PyProof.ListOps
import PyProof.MeetsIn
import PyProof.DictKinds
import PyProof.DictList
import PyProof.MeetsDictList
import PyProof.DictRoads
import PyProof.DictTruth
import PyProof.DictStraight
import PyProof.DictUpdate
import PyProof.DictTable
import PyProof.Draws
import PyProof.EnumMake
import PyProof.P3Eq
import PyProof.NeData
import PyProof.ExcClsAt2
import PyProof.ExcAttrAll.ValueError
import PyProof.ExcClass3
import PyProof.ExcInit
import PyProof.RaisesMany
import PyProof.StrLaws
import PyProof.SliceStr2
import PyProof.StrOps
import PyProof.StrOps2
import PyProof.StrLawsJoin
import PyProof.WalksMore
import PyProof.RangeFor
import PyProof.InstLoad
import PyProof.InstStoreFacts
import PyProof.IsInstance
import PyProof.IsInstanceH
import PyProof.IsiNone
import PyProof.ListCopy
import PyProof.ListIndexNeg
import PyProof.ListMulRoad
import PyProof.ListRange
import PyProof.ListTruth
import PyProof.WalkInts
import PyProof.RulesAs
import PyProof.ObjNew
import PyProof.P3In
import PyProof.Rows.TupSub
import PyProof.ZipIter
import PyProof.WalksPairs
import PyProof.Truth
import PyProof.StrCalls2
import PyProof.Rows.AttrNodeAny
import PyProof.Rows.CellsKey
import PyProof.Rows.Chain
import PyProof.WalksEnum
import PyProof.Rows.RuleB_floordiv
import PyProof.Rows.RuleB_mod
import PyProof.Rows.StrTemp
import PyProof.Rows.ListMul
import PyProof.Rows.RuleN_abs
import PyProof.TupleOps
import PyProof.Rows.TupMore
import PyProof.SliceMore
import PyProof.RulesAssignMore
import PyProof.TupleOfSeq
import PyProof.Rows.SortWalk
import PyProof.Rows.CallKwBuiltin
import PyProof.Rows.SortRev
import PyProof.Rows.PlainObj
import PyProof.Rows.ExtendIn
import OpenK.KCls
import Open.Head
import Open.Line
import Wide.All
import Lean
import PySem.Challenge.RW_uf010022_01
set_option Elab.async false
set_option linter.all false
set_option autoImplicit false
set_option compiler.extract_closed false
set_option genSizeOf false
set_option bootstrap.genMatcherCode false
set_option maxRecDepth 100000
set_option maxHeartbeats 4000000
set_option linter.unusedSimpArgs false
set_option linter.unusedVariables false
namespace Mine
open PySem PySem.Calls

section
theorem no {α : Type} {z : α} {P : Prop} (h : none = some z) : P := by contradiction
theorem si {α : Type} {a b : α} (h : some a = some b) : a = b := Option.some.inj h
theorem bindI {α β : Type} {o : Option α} {f : α → Option β} {z : β} {P : Prop} (k : ∀ a, o = some a → f a = some z → P) (h : o.bind f = some z) : P := by
  induction o with
  | none => exact no h
  | some a => exact k a rfl h
theorem ifI {α : Type} {c : Prop} [Decidable c] {o : Option α} {z : α} {P : Prop} (k : c → o = some z → P) (h : (if c then o else none) = some z) : P := by
  by_cases hc : c
  · rw [if_pos hc] at h; exact k hc h
  · rw [if_neg hc] at h; exact no h
inductive BindI {α β : Type} (o : Option α) (f : α → Option β) (z : β) : Prop
  | mk (a : α) (h : o = some a) (k : f a = some z) : BindI o f z
theorem bindE {α β : Type} {o : Option α} {f : α → Option β} {z : β} (h : o.bind f = some z) : BindI o f z := by
  induction o with
  | none => exact no h
  | some a => exact ⟨a, rfl, h⟩
inductive MapI {α β : Type} (o : Option α) (f : α → β) : β → Prop
  | mk (a : α) (h : o = some a) : MapI o f (f a)
theorem mapE {α β : Type} {o : Option α} {f : α → β} {z : β} (h : o.map f = some z) : MapI o f z := by
  induction o with
  | none => exact no h
  | some a => (have e := si h; subst e; clear h); exact ⟨a, rfl⟩

noncomputable abbrev Grow (h h' : Heap) : Prop := ∀ b o, h.get? b = some o → h'.get? b = some o
theorem Grow.refl (h : Heap) : Grow h h := fun _ _ e => e
theorem Grow.trans {h₁ h₂ h₃ : Heap} (x : Grow h₁ h₂) (y : Grow h₂ h₃) : Grow h₁ h₃ := fun b o e => y b o (x b o e)
theorem Grow.push (h : Heap) (o : Obj) : Grow h (h.push o) := fun _ _ e => Heap.get?_push_of_some o e
theorem keeps_refl (s : Shared) : Keeps s s := ⟨s.heap, s.toks, rfl, Grow.refl _⟩
theorem keeps_trans {s₁ s₂ s₃ : Shared} (x : Keeps s₁ s₂) (y : Keeps s₂ s₃) : Keeps s₁ s₃ := by
  obtain ⟨h, t, rfl, k⟩ := x
  obtain ⟨h', t', rfl, k'⟩ := y
  exact ⟨h', t', rfl, Grow.trans k k'⟩
theorem keeps_toks (s : Shared) (t : Nat) : Keeps s { s with toks := t } := ⟨s.heap, t, rfl, Grow.refl _⟩
theorem keeps_push (s : Shared) (o : Obj) : Keeps s { s with heap := s.heap.push o } := ⟨s.heap.push o, s.toks, rfl, Grow.push _ _⟩
theorem keeps_grow {s s' : Shared} (x : Keeps s s') : Grow s.heap s'.heap := by obtain ⟨h, t, rfl, k⟩ := x; exact k
theorem get?_size_none (h : Heap) {a : Addr} (ha : h.objs.size ≤ a) : h.get? a = none := by
  cases e : h.get? a with
  | none => rfl
  | some o => exact absurd (Heap.lt_size e) (Nat.not_lt.mpr ha)

noncomputable abbrev lstObj (vs : List Value) (n : Nat) : Obj := { cls := .type "list", dict := none, data := .seq vs.toArray n, slots := #[] }
noncomputable abbrev tupObj (vs : List Value) (n : Nat) : Obj := { cls := .type "tuple", dict := none, data := .seq vs.toArray n, slots := #[] }
noncomputable def Tup (o : Obj) : Prop := ∃ vs k, o = tupObj vs k
noncomputable def dictOf (xs : List (Str × PyData)) : PyData := .dict (xs.map fun p => (.str p.1, p.2))

inductive IAt (h : Heap) (a dx C : Addr) (m : Str → Option Value) : Prop
  | mk (o : Obj) (h1 : h.get? a = some o) (h2 : o.cls = .ref C) (h3 : ∀ c, o.data ≠ .cls c) (h4 : o.dict = some dx) (h5 : dx ≠ a) (h6 : h.Ns1 dx m) : IAt h a dx C m
theorem IAt.kept {h h' : Heap} {a dx C : Addr} {m : Str → Option Value} (i : IAt h a dx C m) (k1 : ∀ o, h.get? a = some o → h'.get? a = some o) (k2 : ∀ o, h.get? dx = some o → h'.get? dx = some o) : IAt h' a dx C m := by
  obtain ⟨o, h1, h2, h3, h4, h5, h6⟩ := i
  exact ⟨o, k1 o h1, h2, h3, h4, h5, h6.at k2⟩
theorem IAt.alive {h : Heap} {a dx C : Addr} {m : Str → Option Value} (i : IAt h a dx C m) : ∀ b ∈ [a, dx], ∃ o, h.get? b = some o ∧ ¬ Tup o := by
  obtain ⟨o, h1, h2, h3, h4, h5, o', es, ep, g1, g2, _⟩ := i
  intro b hb
  simp only [List.mem_cons, List.not_mem_nil, or_false] at hb
  rcases hb with rfl | rfl
  · refine ⟨o, h1, ?_⟩
    rintro ⟨vs, k, rfl⟩; cases h2
  · refine ⟨o', g1, ?_⟩
    rintro ⟨vs, k, rfl⟩; cases g2
structure StF where
  told : PyData
  opened : Int
  given : PyData
  standing : PyData
  held : List (Str × Nat)
  worth : List (Int × Int)
noncomputable def storeD (C V p : Addr) (f : StF) : PyData :=
  .dict [(.tuple [.int C, .int V, .int p], .tuple [f.told, .int f.opened, f.given, f.standing, .tuple (f.held.map fun q => .tuple [.str q.1, .int q.2]), .tuple (f.worth.map fun q => .tuple [.int q.1, .int q.2])])]
noncomputable def valD (V : Addr) (x y : Int) : PyData := .dict [(.int V, .tuple [.int x, .int y])]
noncomputable def recD (C : Addr) (rs : List (Str × Addr)) (fs : List (Str × PyData)) : PyData := .dict [(.list (.int C :: rs.map fun q => .tuple [.str q.1, .int q.2]), .dict (fs.map fun p => (.str p.1, p.2)))]
noncomputable def valNames : List Str := ["amount", "opening"]
noncomputable def storeNames : List Str := ["plots", "told", "opened", "given", "standing", "held"]
inductive ValAt (h : Heap) (V b db : Addr) (x y : Int) : Prop
  | mk (m : Str → Option Value) (t u : Tok) (h1 : IAt h b db V m) (h2 : m "amount" = some (.int x t)) (h3 : m "opening" = some (.int y u)) (h4 : Within m valNames) : ValAt h V b db x y
theorem ValAt.kept {h h' : Heap} {V b db : Addr} {x y : Int} (i : ValAt h V b db x y) (k : ∀ c ∈ [b, db], ∀ o, h.get? c = some o → h'.get? c = some o) : ValAt h' V b db x y := by
  obtain ⟨m, t, u, i, r1, r2, r3⟩ := i
  exact ⟨m, t, u, i.kept (k b (by simp)) (k db (by simp)), r1, r2, r3⟩
section
variable (prog : Program) (w : World)
structure StoreAt (h : Heap) (a dx C V p hd : Addr) (pool : List (Addr × Addr)) (f : StF) (vs : List Value) (m : Str → Option Value) (ks : List (Str × Value)) : Prop where
  obj : IAt h a dx C m
  held : m "held" = some (.ref hd)
  opened : ∃ t, m "opened" = some (.int f.opened t)
  plots : m "plots" = some (.ref p)
  three : [m "told", m "given", m "standing"] = vs.map some
  names : Within m storeNames
  dict : h.DictOf (strKind prog w) hd ks
  mods : (hd == sysModules) = false
  keys : ks.map (·.1) = f.held.map (·.1)
  vals : ks.map (·.2) = f.held.map fun q => .ref (pool.getD q.2 (0, 0)).1
  bound : ∀ q ∈ f.held, q.2 < pool.length
  len : pool.length = f.worth.length
  each : ∀ (i : Nat) (b db : Addr) (x y : Int), pool[i]? = some (b, db) → f.worth[i]? = some (x, y) → ValAt h V b db x y
noncomputable def footS (a dx hd : Addr) (pool : List (Addr × Addr)) : List Addr := a :: dx :: hd :: pool.flatMap fun q => [q.1, q.2]
variable {prog w}
theorem StoreAt.kept {h h' : Heap} {a dx C V p hd : Addr} {pool : List (Addr × Addr)} {f : StF} {vs : List Value} {m : Str → Option Value} {ks : List (Str × Value)} (i : StoreAt prog w h a dx C V p hd pool f vs m ks)
    (k : ∀ c ∈ footS a dx hd pool, ∀ o, h.get? c = some o → h'.get? c = some o) : StoreAt prog w h' a dx C V p hd pool f vs m ks :=
  { i with
    obj := i.obj.kept (k a (by simp [footS])) (k dx (by simp [footS]))
    dict := by obtain ⟨o, es, ep, ho, r⟩ := i.dict; exact ⟨o, es, ep, k hd (by simp [footS]) o ho, r⟩
    each := fun j b db x y e1 e2 => (i.each j b db x y e1 e2).kept fun c hc => k c (by
      simp only [footS, List.mem_cons, List.mem_flatMap]
      exact .inr (.inr (.inr ⟨_, List.mem_of_getElem? e1, by simpa using hc⟩))) }
theorem StoreAt.alive {h : Heap} {a dx C V p hd : Addr} {pool : List (Addr × Addr)} {f : StF} {vs : List Value} {m : Str → Option Value} {ks : List (Str × Value)} (i : StoreAt prog w h a dx C V p hd pool f vs m ks) :
    ∀ c ∈ footS a dx hd pool, ∃ o, h.get? c = some o ∧ ¬ Tup o := by
  intro c hc
  simp only [footS, List.mem_cons, List.mem_flatMap] at hc
  rcases hc with rfl | rfl | rfl | ⟨q, hq, hc⟩
  · exact i.obj.alive _ (by simp)
  · exact i.obj.alive _ (by simp)
  · obtain ⟨o, es, ep, ho, hx, _⟩ := i.dict
    refine ⟨o, ho, ?_⟩
    rintro ⟨vs, k, rfl⟩
    exact absurd hx.1 (by simp)
  · obtain ⟨j, hj⟩ := List.mem_iff_getElem?.mp hq
    have hl : j < f.worth.length := by rw [← i.len]; exact (List.getElem?_eq_some_iff.mp hj).1
    obtain ⟨m', t, u, I, _⟩ := i.each j q.1 q.2 (f.worth[j]).1 (f.worth[j]).2 hj (by simp [hl])
    exact I.alive c (by simpa using hc)
end

section
variable (prog : Program) (w : World) (Hz : List Addr)
mutual
inductive RD (h : Heap) : Value → PyData → List Addr → Prop
  | none : RD h .none .none []
  | bool (b : Bool) : RD h (.bool b) (.bool b) []
  | int (i : Int) (t : Tok) : RD h (.int i t) (.int i) []
  | str (x : Str) (t : Tok) : RD h (.str x t) (.str x) []
  | list {a : Addr} {vs : List Value} {n : Nat} {xs : List PyData} {as : List Addr} : h.get? a = some (lstObj vs n) → RDs h vs xs as → RD h (.ref a) (.list xs) (a :: as)
  | tuple {a : Addr} {vs : List Value} {n : Nat} {xs : List PyData} {as : List Addr} : h.get? a = some (tupObj vs n) → a ∉ Hz → RDs h vs xs as → RD h (.ref a) (.tuple xs) as
  | dict {a : Addr} {kvs : List (Str × Value)} {xs : List (Str × PyData)} {as : List Addr} : h.DictOf (strKind prog w) a kvs → (a == sysModules) = false → kvs.map (·.1) = xs.map (·.1) → RDs h (kvs.map (·.2)) (xs.map (·.2)) as →
      RD h (.ref a) (dictOf xs) (a :: as)
  | val {V b db : Addr} {x y : Int} : ValAt h V b db x y → RD h (.ref b) (valD V x y) [b, db]
  | store {a dx C V p hd : Addr} {pool : List (Addr × Addr)} {f : StF} {vs : List Value} {m : Str → Option Value} {ks : List (Str × Value)} {as : List Addr} : StoreAt prog w h a dx C V p hd pool f vs m ks → RDs h vs [f.told, f.given, f.standing] as → RD h (.ref a) (storeD C V p f) (footS a dx hd pool ++ as)
  | inst {a dx C : Addr} {rs : List (Str × Addr)} {fs : List (Str × PyData)} {vs : List Value} {m : Str → Option Value} {as : List Addr} : IAt h a dx C m → (∀ q ∈ rs, m q.1 = some (.ref q.2)) → fs.map (fun p => m p.1) = vs.map some → Within m (rs.map (·.1) ++ fs.map (·.1)) → RDs h vs (fs.map (·.2)) as → RD h (.ref a) (recD C rs fs) (a :: dx :: as)
inductive RDs (h : Heap) : List Value → List PyData → List Addr → Prop
  | nil : RDs h [] [] []
  | cons {u : Value} {us : List Value} {x : PyData} {xs : List PyData} {as bs : List Addr} : RD h u x as → RDs h us xs bs → RDs h (u :: us) (x :: xs) (as ++ bs)
end
end
variable {prog : Program} {w : World} {Hz : List Addr}

mutual
noncomputable def flat : PyData → Bool
  | .none => true
  | .bool _ => true
  | .int _ => true
  | .str _ => true
  | .list _ => false
  | .tuple xs => flats xs
  | .dict _ => false
noncomputable def flats : List PyData → Bool
  | [] => true
  | x :: xs => flat x && flats xs
end
mutual
noncomputable def wf : PyData → Bool
  | .none => true
  | .bool _ => true
  | .int _ => true
  | .str x => PyData.strOk x && decide (x.length ≤ sizeLine)
  | .list xs => decide (xs.length ≤ sizeLine) && wfs xs
  | .tuple xs => decide (xs.length ≤ sizeLine) && wfs xs
  | .dict kvs => decide (kvs.length ≤ sizeLine) && wfk kvs
noncomputable def wfs : List PyData → Bool
  | [] => true
  | x :: xs => wf x && wfs xs
noncomputable def wfk : List (PyData × PyData) → Bool
  | [] => true
  | (k, x) :: xs => wf k && wf x && wfk xs
end
mutual
noncomputable def nd : PyData → Bool
  | .none => true
  | .bool _ => true
  | .int _ => true
  | .str _ => true
  | .list xs => nds xs
  | .tuple xs => nds xs
  | .dict _ => false
noncomputable def nds : List PyData → Bool
  | [] => true
  | x :: xs => nd x && nds xs
end
mutual
theorem can_of : ∀ x : PyData, wf x = true → nd x = true → x.canLay0 = true
  | .none, _, _ => by simp [PyData.canLay0]
  | .bool _, _, _ => by simp [PyData.canLay0]
  | .int _, _, _ => by simp [PyData.canLay0]
  | .str x, h, _ => by simp only [wf, Bool.and_eq_true] at h; simpa [PyData.canLay0] using h.1
  | .list xs, h, f => by simp only [wf, Bool.and_eq_true] at h; simp only [PyData.canLay0]; exact cans_of xs h.2 (by simpa [nd] using f)
  | .tuple xs, h, f => by simp only [wf, Bool.and_eq_true] at h; simp only [PyData.canLay0]; exact cans_of xs h.2 (by simpa [nd] using f)
  | .dict _, _, h => by simp [nd] at h
theorem cans_of : ∀ xs : List PyData, wfs xs = true → nds xs = true → PyData.canLayAll0 xs = true
  | [], _, _ => by simp [PyData.canLayAll0]
  | x :: xs, h, f => by
    simp only [wfs, Bool.and_eq_true] at h
    simp only [nds, Bool.and_eq_true] at f
    simp [PyData.canLayAll0, can_of x h.1 f.1, cans_of xs h.2 f.2]
end

section
variable {h h' : Heap}
theorem RD.both {P : Value → PyData → List Addr → Prop} {R : List Value → List PyData → List Addr → Prop} (c1 : P .none .none []) (c2 : ∀ b, P (.bool b) (.bool b) []) (c3 : ∀ i t, P (.int i t) (.int i) []) (c4 : ∀ x t, P (.str x t) (.str x) [])
    (c5 : ∀ {a vs n xs as}, h.get? a = some (lstObj vs n) → RDs prog w Hz h vs xs as → R vs xs as → P (.ref a) (.list xs) (a :: as)) (c6 : ∀ {a vs n xs as}, h.get? a = some (tupObj vs n) → a ∉ Hz → RDs prog w Hz h vs xs as → R vs xs as → P (.ref a) (.tuple xs) as)
    (c7 : ∀ {a} {kvs : List (Str × Value)} {xs : List (Str × PyData)} {as}, h.DictOf (strKind prog w) a kvs → (a == sysModules) = false → kvs.map (·.1) = xs.map (·.1) → RDs prog w Hz h (kvs.map (·.2)) (xs.map (·.2)) as → R (kvs.map (·.2)) (xs.map (·.2)) as → P (.ref a) (dictOf xs) (a :: as))
    (cv : ∀ {V b db x y}, ValAt h V b db x y → P (.ref b) (valD V x y) [b, db])
    (cs : ∀ {a dx C V p hd pool f vs m ks as}, StoreAt prog w h a dx C V p hd pool f vs m ks → RDs prog w Hz h vs [f.told, f.given, f.standing] as → R vs [f.told, f.given, f.standing] as → P (.ref a) (storeD C V p f) (footS a dx hd pool ++ as))
    (cr : ∀ {a dx C} {rs : List (Str × Addr)} {fs : List (Str × PyData)} {vs : List Value} {m : Str → Option Value} {as}, IAt h a dx C m → (∀ q ∈ rs, m q.1 = some (.ref q.2)) → fs.map (fun p => m p.1) = vs.map some → Within m (rs.map (·.1) ++ fs.map (·.1)) → RDs prog w Hz h vs (fs.map (·.2)) as → R vs (fs.map (·.2)) as → P (.ref a) (recD C rs fs) (a :: dx :: as))
    (c8 : R [] [] []) (c9 : ∀ {u us x xs as bs}, RD prog w Hz h u x as → RDs prog w Hz h us xs bs → P u x as → R us xs bs → R (u :: us) (x :: xs) (as ++ bs)) :
    (∀ {v x as}, RD prog w Hz h v x as → P v x as) ∧ ∀ {vs xs as}, RDs prog w Hz h vs xs as → R vs xs as :=
  ⟨fun {_ _ _} r => RD.rec (motive_1 := fun v x as _ => P v x as) (motive_2 := fun vs xs as _ => R vs xs as) c1 c2 c3 c4 (fun a b c => c5 a b c) (fun a z b c => c6 a z b c) (fun a b c d e => c7 a b c d e) (fun a => cv a) (fun a b c => cs a b c) (fun a b c d e f => cr a b c d e f) c8 (fun a b c d => c9 a b c d) r,
   fun {_ _ _} r => RDs.rec (motive_1 := fun v x as _ => P v x as) (motive_2 := fun vs xs as _ => R vs xs as) c1 c2 c3 c4 (fun a b c => c5 a b c) (fun a z b c => c6 a z b c) (fun a b c d e => c7 a b c d e) (fun a => cv a) (fun a b c => cs a b c) (fun a b c d e f => cr a b c d e f) c8 (fun a b c d => c9 a b c d) r⟩
theorem grow_both (k : Grow h h') : (∀ {v x as}, RD prog w Hz h v x as → RD prog w Hz h' v x as) ∧ ∀ {vs xs as}, RDs prog w Hz h vs xs as → RDs prog w Hz h' vs xs as :=
  RD.both .none .bool .int .str (fun a _ r => .list (k _ _ a) r) (fun a z _ r => .tuple (k _ _ a) z r) (fun q g e _ r => .dict (by obtain ⟨o, es, ep, ho, q⟩ := q; exact ⟨o, es, ep, k _ _ ho, q⟩) g e r) (fun i => .val (i.kept fun _ _ _ => k _ _)) (fun i _ r => .store (i.kept fun _ _ _ => k _ _) r) (fun i q e n _ r => .inst (i.kept (k _) (k _)) q e n r) .nil (fun _ _ a r => .cons a r)
theorem RD.grow (k : Grow h h') {v : Value} {x : PyData} {as : List Addr} (r : RD prog w Hz h v x as) : RD prog w Hz h' v x as := (grow_both k).1 r
theorem RDs.grow (k : Grow h h') {vs : List Value} {xs : List PyData} {as : List Addr} (r : RDs prog w Hz h vs xs as) : RDs prog w Hz h' vs xs as := (grow_both k).2 r
theorem hide_both {Hy : List Addr} (k : ∀ a o, h.get? a = some o → a ∉ Hz → a ∉ Hy) : (∀ {v x as}, RD prog w Hz h v x as → RD prog w Hy h v x as) ∧ ∀ {vs xs as}, RDs prog w Hz h vs xs as → RDs prog w Hy h vs xs as :=
  RD.both .none .bool .int .str (fun a _ r => .list a r) (fun a z _ r => .tuple a (k _ _ a z) r) (fun q g e _ r => .dict q g e r) (fun i => .val i) (fun i _ r => .store i r) (fun i q e n _ r => .inst i q e n r) .nil (fun _ _ a r => .cons a r)
theorem lift0 {hb : Heap} (k : ∀ z ∈ Hz, hb.get? z = none) : (∀ {v x as}, RD prog w [] hb v x as → RD prog w Hz hb v x as) ∧ ∀ {vs xs as}, RDs prog w [] hb vs xs as → RDs prog w Hz hb vs xs as :=
  hide_both fun a o e _ z => by rw [k a z] at e; exact no e
noncomputable def Off (W : List Addr) (h h' : Heap) : Prop := ∀ b o, h.get? b = some o → (b ∉ W ∨ Tup o) → h'.get? b = some o
theorem Off.of_grow {W : List Addr} (k : Grow h h') : Off W h h' := fun b o e _ => k b o e
theorem off_both {W : List Addr} (k : Off W h h') : (∀ {v x as}, RD prog w Hz h v x as → (∀ a ∈ as, a ∉ W) → RD prog w Hz h' v x as) ∧ ∀ {vs xs as}, RDs prog w Hz h vs xs as → (∀ a ∈ as, a ∉ W) → RDs prog w Hz h' vs xs as :=
  RD.both (fun _ => .none) (fun b _ => .bool b) (fun i t _ => .int i t) (fun i t _ => .str i t) (fun a _ r q => .list (k _ _ a (.inl (q _ (.head _)))) (r fun b hb => q b (.tail _ hb))) (fun a z _ r q => .tuple (k _ _ a (.inr ⟨_, _, rfl⟩)) z (r q))
    (fun p g e _ r q => .dict (by obtain ⟨o, es, ep, ho, p⟩ := p; exact ⟨o, es, ep, k _ _ ho (.inl (q _ (.head _))), p⟩) g e (r fun b hb => q b (.tail _ hb))) (fun i q => .val (i.kept fun c hc o e => k c o e (.inl (q c hc)))) (fun i _ r q => .store (i.kept fun c hc o e => k c o e (.inl (q c (List.mem_append_left _ hc)))) (r fun b hb => q b (List.mem_append_right _ hb))) (fun i p e n _ r q => .inst (i.kept (fun o eo => k _ o eo (.inl (q _ (.head _)))) (fun o eo => k _ o eo (.inl (q _ (.tail _ (.head _)))))) p e n (r fun b hb => q b (.tail _ (.tail _ hb)))) (fun _ => .nil) (fun _ _ a r q => .cons (a fun b hb => q b (List.mem_append_left _ hb)) (r fun b hb => q b (List.mem_append_right _ hb)))
theorem RD.off {W : List Addr} (k : Off W h h') {v : Value} {x : PyData} {as : List Addr} (r : RD prog w Hz h v x as) (q : ∀ a ∈ as, a ∉ W) : RD prog w Hz h' v x as := (off_both k).1 r q
theorem RDs.off {W : List Addr} (k : Off W h h') {vs : List Value} {xs : List PyData} {as : List Addr} (r : RDs prog w Hz h vs xs as) (q : ∀ a ∈ as, a ∉ W) : RDs prog w Hz h' vs xs as := (off_both k).2 r q
theorem alive_both : (∀ {v x as}, RD prog w Hz h v x as → ∀ a ∈ as, ∃ o, h.get? a = some o) ∧ ∀ {vs xs as}, RDs prog w Hz h vs xs as → ∀ a ∈ as, ∃ o, h.get? a = some o :=
  RD.both (fun _ q => nomatch q) (fun _ _ q => nomatch q) (fun _ _ _ q => nomatch q) (fun _ _ _ q => nomatch q) (fun a _ r b q => (List.mem_cons.mp q).elim (fun e => ⟨_, e ▸ a⟩) (r b)) (fun _ _ _ r b q => r b q)
    (fun p _ _ _ r b q => (List.mem_cons.mp q).elim (fun e => by obtain ⟨o, _, _, ho, _⟩ := p; exact ⟨o, e ▸ ho⟩) (r b)) (fun i c q => by obtain ⟨m, t, u, i, _⟩ := i; exact (i.alive c q).imp fun _ h => h.1) (fun i _ r c q => (List.mem_append.mp q).elim (fun q => (i.alive c q).imp fun _ h => h.1) (r c)) (fun {a dx _ _ _ _ _ as} i _ _ _ _ r c q => (List.mem_append.mp (show c ∈ [a, dx] ++ as from q)).elim (fun q => (i.alive c q).imp fun _ h => h.1) (r c)) (fun _ q => nomatch q) (fun _ _ a r b q => (List.mem_append.mp q).elim (a b) (r b))
theorem RD.alive {v : Value} {x : PyData} {as : List Addr} (r : RD prog w Hz h v x as) : ∀ a ∈ as, ∃ o, h.get? a = some o := alive_both.1 r
theorem RDs.alive {vs : List Value} {xs : List PyData} {as : List Addr} (r : RDs prog w Hz h vs xs as) : ∀ a ∈ as, ∃ o, h.get? a = some o := alive_both.2 r
theorem flat_both : (∀ {v x as}, RD prog w Hz h v x as → flat x = true → as = []) ∧ ∀ {vs xs as}, RDs prog w Hz h vs xs as → flats xs = true → as = [] :=
  RD.both (fun _ => rfl) (fun _ _ => rfl) (fun _ _ _ => rfl) (fun _ _ _ => rfl) (fun _ _ _ e => by simp [flat] at e) (fun _ _ _ r e => r (by simpa [flat] using e)) (fun _ _ _ _ _ e => by simp [flat, dictOf] at e) (fun _ e => by simp [flat, valD] at e) (fun _ _ _ e => by simp [flat, storeD] at e) (fun _ _ _ _ _ _ e => by simp [flat, recD] at e) (fun _ => rfl)
    (fun _ _ a r e => by
      simp only [flats, Bool.and_eq_true] at e
      rw [a e.1, r e.2]; rfl)
theorem RD.flat_foot {v : Value} {x : PyData} {as : List Addr} (r : RD prog w Hz h v x as) (e : flat x = true) : as = [] := flat_both.1 r e
theorem RDs.flat_foot {vs : List Value} {xs : List PyData} {as : List Addr} (r : RDs prog w Hz h vs xs as) (e : flats xs = true) : as = [] := flat_both.2 r e
theorem reads_both : (∀ {v x as}, RD prog w Hz h v x as → x.canLay0 = true → Reads h v x as) ∧ ∀ {vs xs as}, RDs prog w Hz h vs xs as → PyData.canLayAll0 xs = true → ReadsAll h vs xs as :=
  RD.both (fun _ => .none) (fun b _ => .bool b) (fun i t _ => .int i t) (fun i t _ => .str i t) (fun a _ r c => .list a rfl rfl (r (by simpa [PyData.canLay0] using c))) (fun a _ _ r c => .tuple a rfl rfl (r (by simpa [PyData.canLay0] using c)))
    (fun _ _ _ _ _ c => by simp [PyData.canLay0, dictOf] at c) (fun _ c => by simp [PyData.canLay0, valD] at c) (fun _ _ _ c => by simp [PyData.canLay0, storeD] at c) (fun _ _ _ _ _ _ c => by simp [PyData.canLay0, recD] at c) (fun _ => .nil) (fun _ _ a r c => by
      simp only [PyData.canLayAll0, Bool.and_eq_true] at c
      exact .cons (a c.1) (r c.2))
theorem RD.reads {v : Value} {x : PyData} {as : List Addr} (r : RD prog w Hz h v x as) (c : x.canLay0 = true) : Reads h v x as := reads_both.1 r c
theorem RDs.ind {R : List Value → List PyData → List Addr → Prop} (c8 : R [] [] []) (c9 : ∀ {u us x xs as bs}, RD prog w Hz h u x as → RDs prog w Hz h us xs bs → R us xs bs → R (u :: us) (x :: xs) (as ++ bs)) {vs : List Value} {xs : List PyData} {as : List Addr} (r : RDs prog w Hz h vs xs as) : R vs xs as :=
  (RD.both (P := fun _ _ _ => True) (R := R) trivial (fun _ => trivial) (fun _ _ => trivial) (fun _ _ => trivial) (fun _ _ _ => trivial) (fun _ _ _ _ => trivial) (fun _ _ _ _ _ => trivial) (fun _ => trivial) (fun _ _ _ => trivial) (fun _ _ _ _ _ _ => trivial) c8 (fun a b _ r => c9 a b r)).2 r
theorem RDs.length {vs : List Value} {xs : List PyData} {as : List Addr} (r : RDs prog w Hz h vs xs as) : vs.length = xs.length :=
  RDs.ind (R := fun vs xs _ => vs.length = xs.length) rfl (fun _ _ r => by rw [List.length_cons, List.length_cons, r]) r
theorem RDs.append {vs : List Value} {xs : List PyData} {as : List Addr} {ws : List Value} {ys : List PyData} {bs : List Addr} (r : RDs prog w Hz h vs xs as) (q : RDs prog w Hz h ws ys bs) : RDs prog w Hz h (vs ++ ws) (xs ++ ys) (as ++ bs) :=
  RDs.ind (R := fun vs xs as => RDs prog w Hz h (vs ++ ws) (xs ++ ys) (as ++ bs)) q (fun a _ r => by rw [List.append_assoc]; exact .cons a r) r
theorem RDs.get {vs : List Value} {xs : List PyData} {as : List Addr} (r : RDs prog w Hz h vs xs as) {i : Nat} {x : PyData} (e : xs[i]? = some x) : ∃ v bs, vs[i]? = some v ∧ RD prog w Hz h v x bs ∧ ∀ b ∈ bs, b ∈ as := by
  refine RDs.ind (R := fun vs xs as => ∀ i : Nat, xs[i]? = some x → ∃ v bs, vs[i]? = some v ∧ RD prog w Hz h v x bs ∧ ∀ b ∈ bs, b ∈ as) (fun i e => by simp at e) (fun {u us y ys as bs} a _ r i e => ?_) r i e
  induction i with
  | zero =>
    rw [List.getElem?_cons_zero] at e
    (have e := si e; subst e; clear e)
    exact ⟨u, as, rfl, a, fun b hb => List.mem_append_left _ hb⟩
  | succ i =>
    obtain ⟨v, bs, h1, h2, h3⟩ := r i e
    exact ⟨v, bs, h1, h2, fun b hb => List.mem_append_right _ (h3 b hb)⟩
theorem RDs.part {vs : List Value} {xs : List PyData} {as : List Addr} (r : RDs prog w Hz h vs xs as) (is : List Nat) :
    ∃ bs, RDs prog w Hz h (is.filterMap fun i => vs[i]?) (is.filterMap fun i => xs[i]?) bs ∧ ∀ b ∈ bs, b ∈ as := by
  induction is with
  | nil => exact ⟨[], .nil, fun _ q => nomatch q⟩
  | cons i is ih =>
    obtain ⟨bs, q, hq⟩ := ih
    by_cases hi : i < xs.length
    · obtain ⟨v, cs, e1, e2, e3⟩ := r.get (i := i) (x := xs[i]) (by simp [hi])
      refine ⟨cs ++ bs, ?_, fun b hb => (List.mem_append.mp hb).elim (e3 b) (hq b)⟩
      rw [List.filterMap_cons, List.filterMap_cons, e1]
      simp only [List.getElem?_eq_getElem hi]
      exact .cons e2 q
    · have hv : vs[i]? = none := List.getElem?_eq_none (by rw [r.length]; lia)
      have hx : xs[i]? = none := List.getElem?_eq_none (by lia)
      refine ⟨bs, ?_, hq⟩
      rw [List.filterMap_cons, List.filterMap_cons, hv, hx]
      exact q
end
section
variable {h : Heap} {v : Value} {as : List Addr}
theorem RDs.cons_inv {us : List Value} {u : Value} {x : PyData} {xs : List PyData} (r : RDs prog w Hz h (u :: us) (x :: xs) as) : ∃ bs cs, as = bs ++ cs ∧ RD prog w Hz h u x bs ∧ RDs prog w Hz h us xs cs := by
  cases r with
  | cons a b => exact ⟨_, _, rfl, a, b⟩
theorem RDs.uncons {vs : List Value} {x : PyData} {xs : List PyData} (r : RDs prog w Hz h vs (x :: xs) as) : ∃ u us bs cs, vs = u :: us ∧ as = bs ++ cs ∧ RD prog w Hz h u x bs ∧ RDs prog w Hz h us xs cs := by
  cases r with
  | cons a b => exact ⟨_, _, _, _, rfl, rfl, a, b⟩
section
variable (prog w Hz)
inductive UnI (h : Heap) (x : PyData) (xs : List PyData) : List Value → List Addr → Prop
  | mk (u : Value) (us : List Value) (bs cs : List Addr) (a : RD prog w Hz h u x bs) (b : RDs prog w Hz h us xs cs) : UnI h x xs (u :: us) (bs ++ cs)
inductive IntI (i : Int) : Value → Prop
  | mk (t : Tok) : IntI i (.int i t)
inductive StrI (x : Str) : Value → Prop
  | mk (t : Tok) : StrI x (.str x t)
inductive ListI (h : Heap) (xs : List PyData) : Value → List Addr → Prop
  | mk (a : Addr) (vs : List Value) (n : Nat) (bs : List Addr) (h1 : h.get? a = some (lstObj vs n)) (h2 : RDs prog w Hz h vs xs bs) : ListI h xs (.ref a) (a :: bs)
inductive TupI (h : Heap) (xs : List PyData) (as : List Addr) : Value → Prop
  | mk (a : Addr) (vs : List Value) (n : Nat) (h1 : h.get? a = some (tupObj vs n)) (h2 : RDs prog w Hz h vs xs as) : TupI h xs as (.ref a)
inductive DictI (h : Heap) : List (PyData × PyData) → Value → List Addr → Prop
  | mk (a : Addr) (kvs : List (Str × Value)) (xs : List (Str × PyData)) (bs : List Addr) (h1 : h.DictOf (strKind prog w) a kvs) (h2 : (a == sysModules) = false) (h3 : kvs.map (·.1) = xs.map (·.1)) (h4 : RDs prog w Hz h (kvs.map (·.2)) (xs.map (·.2)) bs) : DictI h (xs.map fun p => (.str p.1, p.2)) (.ref a) (a :: bs)
end
theorem RD.intI {i : Int} (r : RD prog w Hz h v (.int i) as) : IntI i v := by cases r; exact ⟨_⟩
theorem RD.strI {x : Str} (r : RD prog w Hz h v (.str x) as) : StrI x v := by cases r; exact ⟨_⟩
theorem RD.listI {xs : List PyData} (r : RD prog w Hz h v (.list xs) as) : ListI prog w Hz h xs v as := by
  cases r with
  | list a b => exact ⟨_, _, _, _, a, b⟩
theorem RD.tupI {xs : List PyData} (r : RD prog w Hz h v (.tuple xs) as) : TupI prog w Hz h xs as v := by
  cases r with
  | tuple a _ b => exact ⟨_, _, _, a, b⟩
theorem RDs.nil_inv {vs : List Value} (r : RDs prog w Hz h vs [] as) : vs = [] ∧ as = [] := by
  cases r with
  | nil => exact ⟨rfl, rfl⟩
theorem RD.none_inv (r : RD prog w Hz h v .none as) : v = .none := by cases r; rfl
theorem RD.bool_inv {b : Bool} (r : RD prog w Hz h v (.bool b) as) : v = .bool b := by cases r; rfl
theorem RD.int_inv {i : Int} (r : RD prog w Hz h v (.int i) as) : ∃ t, v = .int i t := by cases r; exact ⟨_, rfl⟩
theorem RD.str_inv {x : Str} (r : RD prog w Hz h v (.str x) as) : ∃ t, v = .str x t := by cases r; exact ⟨_, rfl⟩
theorem RD.list_inv {xs : List PyData} (r : RD prog w Hz h v (.list xs) as) : ∃ a vs n bs, v = .ref a ∧ as = a :: bs ∧ h.get? a = some (lstObj vs n) ∧ RDs prog w Hz h vs xs bs := by
  cases r with
  | list a b => exact ⟨_, _, _, _, rfl, rfl, a, b⟩
theorem RD.tuple_inv {xs : List PyData} (r : RD prog w Hz h v (.tuple xs) as) : ∃ a vs n, v = .ref a ∧ h.get? a = some (tupObj vs n) ∧ RDs prog w Hz h vs xs as := by
  cases r with
  | tuple a _ b => exact ⟨_, _, _, rfl, a, b⟩
noncomputable def plainK : List (PyData × PyData) → Bool
  | [] => true
  | (.str _, _) :: _ => true
  | _ => false
theorem plainK_map {α : Type} (f : α → Str) (g : α → PyData) (xs : List α) : plainK (xs.map fun p => (.str (f p), g p)) = true := by cases xs <;> rfl
theorem RD.dict_inv {ps : List (PyData × PyData)} (r : RD prog w Hz h v (.dict ps) as) (hk : plainK ps = true) : ∃ (a : Addr) (kvs : List (Str × Value)) (xs : List (Str × PyData)) (bs : List Addr), v = .ref a ∧ as = a :: bs ∧ ps = (xs.map fun p => (.str p.1, p.2)) ∧ h.DictOf (strKind prog w) a kvs ∧ (a == sysModules) = false ∧ kvs.map (·.1) = xs.map (·.1) ∧ RDs prog w Hz h (kvs.map (·.2)) (xs.map (·.2)) bs := by
  generalize hd : PyData.dict ps = D at r
  cases r with
  | dict b1 b2 b3 b4 => exact ⟨_, _, _, _, rfl, rfl, PyData.dict.inj hd, b1, b2, b3, b4⟩
  | val i => cases hd; cases hk
  | store i r => cases hd; cases hk
  | inst i q e n r => cases hd; cases hk
  | _ => cases hd
theorem RD.dictI {ps : List (PyData × PyData)} (r : RD prog w Hz h v (.dict ps) as) (hk : plainK ps = true) : DictI prog w Hz h ps v as := by
  obtain ⟨a, kvs, xs, bs, rfl, rfl, rfl, h1, h2, h3, h4⟩ := r.dict_inv hk
  exact ⟨a, kvs, xs, bs, h1, h2, h3, h4⟩
end
theorem wfs_append (xs ys : List PyData) : wfs (xs ++ ys) = (wfs xs && wfs ys) := by
  induction xs with
  | nil => simp [wfs]
  | cons x xs ih => simp [wfs, ih, Bool.and_assoc]
theorem wfs_iff (xs : List PyData) : wfs xs = true ↔ ∀ x ∈ xs, wf x = true := by
  induction xs with
  | nil => simp [wfs]
  | cons x xs ih => simp [wfs, ih]
theorem nds_iff (xs : List PyData) : nds xs = true ↔ ∀ x ∈ xs, nd x = true := by
  induction xs with
  | nil => simp [nds]
  | cons x xs ih => simp [nds, ih]
theorem flats_iff (xs : List PyData) : flats xs = true ↔ ∀ x ∈ xs, flat x = true := by
  induction xs with
  | nil => simp [flats]
  | cons x xs ih => simp [flats, ih]

inductive Fl where
  | d
  | s
  | t
  deriving DecidableEq
structure V where
  x : PyData
  fl : Fl
noncomputable def V.fix (x : PyData) (f : Fl) : V := ⟨x, if flat x then .d else f⟩
inductive Own where
  | lst (xs : List PyData)
  | dct (kvs : List (Str × PyData))
  | tree (r : Option Addr) (x : PyData)
inductive VV where
  | val (v : V)
  | own (o : Own)
noncomputable abbrev Rho := String → Option VV
noncomputable def Rho.set (ρ : Rho) (x : String) (v : VV) : Rho := fun y => bif y == x then some v else ρ y
theorem set_if (ρ : Rho) (x : String) (v : VV) (y : String) : (ρ.set x v) y = if y = x then some v else ρ y := by
  by_cases h : y = x
  · rw [if_pos h]; subst h; simp [Rho.set]
  · rw [if_neg h]; simp [Rho.set, beq_eq_false_iff_ne.mpr h]

noncomputable def isNode : PyData → Bool
  | .list _ => true
  | .dict _ => true
  | _ => false
noncomputable def FlOk (s₀ : Heap) (W : List Addr) (f : Fl) (as : List Addr) : Prop :=
  match f with
  | .d => ∀ a ∈ as, s₀.get? a = none ∧ a ∉ W
  | .s => ∀ a ∈ as, a ∉ W
  | .t => True
theorem FlOk.nil {s₀ : Heap} {W : List Addr} {f : Fl} : FlOk s₀ W f [] := by cases f <;> simp [FlOk]
theorem FlOk.mono {s₀ : Heap} {W : List Addr} {f : Fl} {as bs : List Addr} (h : FlOk s₀ W f as) (hs : ∀ a ∈ bs, a ∈ as) : FlOk s₀ W f bs := by
  cases f
  · exact fun a ha => h a (hs a ha)
  · exact fun a ha => h a (hs a ha)
  · trivial
theorem FlOk.append {s₀ : Heap} {W : List Addr} {f : Fl} {as bs : List Addr} (h : FlOk s₀ W f as) (k : FlOk s₀ W f bs) : FlOk s₀ W f (as ++ bs) := by
  cases f
  · exact fun a ha => (List.mem_append.mp ha).elim (h a) (k a)
  · exact fun a ha => (List.mem_append.mp ha).elim (h a) (k a)
  · trivial
section
variable (prog w Hz)
inductive Rep (s₀ : Heap) (W : List Addr) (h : Heap) (u : Value) (v : V) : Prop
  | mk (as : List Addr) (h1 : RD prog w Hz h u v.x as) (h2 : wf v.x = true) (h3 : FlOk s₀ W v.fl as) : Rep s₀ W h u v
inductive Reps (s₀ : Heap) (W : List Addr) (h : Heap) : List Value → List V → Prop
  | nil : Reps s₀ W h [] []
  | cons {u : Value} {v : V} {us : List Value} {vs : List V} : Rep prog w Hz s₀ W h u v → Reps s₀ W h us vs → Reps s₀ W h (u :: us) (v :: vs)
end
section
variable {s₀ : Heap} {W : List Addr} {h h' : Heap}
theorem Rep.grow {u : Value} {v : V} (r : Rep prog w Hz s₀ W h u v) (k : Grow h h') : Rep prog w Hz s₀ W h' u v := by
  obtain ⟨as, r, c, f⟩ := r; exact ⟨as, r.grow k, c, f⟩
theorem Reps.grow {us : List Value} {vs : List V} (r : Reps prog w Hz s₀ W h us vs) (k : Grow h h') : Reps prog w Hz s₀ W h' us vs := by
  induction r with
  | nil => exact .nil
  | cons a _ ih => exact .cons (a.grow k) ih
theorem Rep.fixed {u : Value} {x : PyData} {f : Fl} {as : List Addr} (r : RD prog w Hz h u x as) (c : wf x = true) (o : FlOk s₀ W f as) : Rep prog w Hz s₀ W h u (V.fix x f) := by
  cases e : flat x with
  | true =>
    refine ⟨as, r, c, ?_⟩
    rw [r.flat_foot e]; exact FlOk.nil
  | false => exact ⟨as, r, c, by simpa [V.fix, e] using o⟩
theorem Rep.int {i : Int} {t : Tok} : Rep prog w Hz s₀ W h (.int i t) ⟨.int i, .d⟩ := ⟨[], .int i t, rfl, FlOk.nil⟩
theorem Rep.bool {b : Bool} : Rep prog w Hz s₀ W h (.bool b) ⟨.bool b, .d⟩ := ⟨[], .bool b, rfl, FlOk.nil⟩
theorem Rep.none : Rep prog w Hz s₀ W h .none ⟨.none, .d⟩ := ⟨[], .none, rfl, FlOk.nil⟩
theorem Rep.str {x : Str} {t : Tok} (hx : wf (.str x) = true) : Rep prog w Hz s₀ W h (.str x t) ⟨.str x, .d⟩ := ⟨[], .str x t, hx, FlOk.nil⟩
end

section
variable (prog w Hz)
inductive RepO (s₀ : Heap) (W : List Addr) (h : Heap) : Value → Own → List Addr → Prop
  | lst {a : Addr} {vs : List Value} {n : Nat} {xs : List PyData} {as : List Addr} : h.get? a = some (lstObj vs n) → RDs prog w Hz h vs xs as → wf (.list xs) = true →
      FlOk s₀ W .d as → RepO s₀ W h (.ref a) (.lst xs) [a]
  | dct {a : Addr} {kvs : List (Str × Value)} {xs : List (Str × PyData)} {as : List Addr} : h.DictOf (strKind prog w) a kvs → (a == sysModules) = false → kvs.map (·.1) = xs.map (·.1) → RDs prog w Hz h (kvs.map (·.2)) (xs.map (·.2)) as →
      wf (dictOf xs) = true → FlOk s₀ W .d as → RepO s₀ W h (.ref a) (.dct xs) [a]
  | tree {a : Addr} {r : Option Addr} {x : PyData} {as : List Addr} : RD prog w Hz h (.ref a) x as → as.Nodup → wf x = true → isNode x = true → (∀ b, r = some b → b = a) → RepO s₀ W h (.ref a) (.tree r x) as

noncomputable def RepVV (s₀ : Heap) (W : List Addr) (O : List (String × List Addr)) (h : Heap) (x : String) (u : Value) : VV → Prop
  | .val v => (v.fl = .d ∨ v.fl = .s) ∧ Rep prog w Hz s₀ W h u v
  | .own o => ∃ sp, O.lookup x = some sp ∧ RepO prog w Hz s₀ W h u o sp

structure Base (hb h : Heap) : Prop where
  hide : ∀ z ∈ Hz, hb.get? z = none ∧ ∃ o, h.get? z = some o ∧ Tup o
  lim : hb.NoLimit
  seer : hb.NoSeer
  tree : prog.given.tree = none
  mods : ∃ o, hb.get? sysModules = some o
  grow : Grow hb h
variable {prog Hz} in
theorem Base.trans {hb h h' : Heap} (b : Base prog Hz hb h) (k : Grow h h') : Base prog Hz hb h' := ⟨fun z hz => let ⟨q, o, e, t⟩ := b.hide z hz; ⟨q, o, k _ _ e, t⟩, b.lim, b.seer, b.tree, b.mods, b.grow.trans k⟩
variable {prog Hz} in
theorem Base.nolimit {hb h : Heap} (b : Base prog Hz hb h) : h.NoLimit := b.lim.keeps b.grow
variable {prog Hz} in
theorem Base.noseer {hb h : Heap} (b : Base prog Hz hb h) : h.NoSeer := b.seer.keeps b.grow
noncomputable def WW (env : Env) (C : List Addr) (O : List (String × List Addr)) : List Addr := env.locals :: (C ++ O.flatMap (·.2))

structure InF (hb : Heap) (s₀ : Shared) (X : List Addr) (env : Env) (C : List Addr) (ρ : Rho) (O : List (String × List Addr)) (s : Shared) : Prop where
  same : ∃ h tk, s = { s₀ with heap := h, toks := tk }
  base : Base prog Hz hb s.heap
  keep : ∀ b o, s₀.heap.get? b = some o → b ∉ X → s.heap.get? b = some o
  alive : ∀ b o, s₀.heap.get? b = some o → ∃ o', s.heap.get? b = some o'
  walive : ∀ a ∈ WW env C O, ∃ o, s.heap.get? a = some o ∧ ¬ Tup o
  wfresh : ∀ a ∈ WW env C O, hb.get? a = none ∧ (a ∉ X → s₀.heap.get? a = none)
  wnodup : (WW env C O).Nodup
  kind : env.scope.kind = .function
  glob : env.globals = mainGlobals
  bult : env.builtins = builtinsNs
  clk : ∀ x, env.kindOf x = some .cell → ∃ c, env.cells.lookup x = some c
  ns : ∃ m, s.heap.Ns env.locals m ∧ ∀ x vv, ρ x = some vv → env.kindOf (Str.ofString x) = some .local → ∃ u, m (Str.ofString x) = some u ∧ RepVV prog w Hz s₀.heap (WW env C O) O s.heap x u vv
  cell : ∀ x vv, ρ x = some vv → env.kindOf (Str.ofString x) = some .cell → ∃ c u, env.cells.lookup (Str.ofString x) = some c ∧ s.heap.IsCell c (some u) ∧ RepVV prog w Hz s₀.heap (WW env C O) O s.heap x u vv
end

structure InS (prog : Program) (w : World) (Hz : List Addr) (hb : Heap) (s₀ : Shared) (X : List Addr) (env : Env) (C : List Addr) (ρ : Rho) (O : List (String × List Addr)) (s : Shared) : Prop extends InF prog w Hz hb s₀ X env C ρ O s where
  fc : ∀ x, env.kindOf (Str.ofString x) = some .cell → ∃ c, env.cells.lookup (Str.ofString x) = some c ∧ c ∈ C
  finj : ∀ x y c, env.cells.lookup x = some c → env.cells.lookup y = some c → x = y
  cello : ∀ x c, env.cells.lookup x = some c → c ∈ C ∧ ∃ v, s.heap.IsCell c v
theorem RepO.grow {s₀ : Heap} {W : List Addr} {h h' : Heap} {u : Value} {o : Own} {sp : List Addr} (r : RepO prog w Hz s₀ W h u o sp) (k : Grow h h') : RepO prog w Hz s₀ W h' u o sp := by
  induction r with
  | lst a b c d => exact .lst (k _ _ a) (b.grow k) c d
  | dct a g e b c d =>
    obtain ⟨o, es, ep, ho, r⟩ := a
    exact .dct ⟨o, es, ep, k _ _ ho, r⟩ g e (b.grow k) c d
  | tree a b c e f => exact .tree (a.grow k) b c e f
theorem RepVV.grow {s₀ : Heap} {W : List Addr} {O : List (String × List Addr)} {h h' : Heap} {x : String} {u : Value} {v : VV} (r : RepVV prog w Hz s₀ W O h x u v) (k : Grow h h') : RepVV prog w Hz s₀ W O h' x u v := by
  induction v with
  | val v => exact ⟨r.1, r.2.grow k⟩
  | own o => obtain ⟨sp, a, b⟩ := r; exact ⟨sp, a, b.grow k⟩
theorem isCell_grow {h h' : Heap} {c : Addr} {v : Option Value} (x : h.IsCell c v) (k : Grow h h') : h'.IsCell c v := by
  obtain ⟨o, ho, r⟩ := x; exact ⟨o, k _ _ ho, r⟩
section
variable {hb : Heap} {s₀ s s' : Shared} {X : List Addr} {env : Env} {C : List Addr} {ρ : Rho} {O : List (String × List Addr)}
theorem InF.grow (I : InF prog w Hz hb s₀ X env C ρ O s) (k : Keeps s s') : InF prog w Hz hb s₀ X env C ρ O s' := by
  obtain ⟨h', tk, rfl, k⟩ := k
  obtain ⟨⟨h, t, rfl⟩, i2, i3, i4, i5, i6, i7, i8, i8a, i8b, i8c, i9, i10⟩ := I
  refine ⟨⟨h', tk, rfl⟩, i2.trans k, fun b o e x => k _ _ (i3 b o e x), fun b o e => ?_, fun a ha => ?_, i6, i7, i8, i8a, i8b, i8c, ?_, ?_⟩
  · obtain ⟨o', e'⟩ := i4 b o e; exact ⟨o', k _ _ e'⟩
  · obtain ⟨o, e, c⟩ := i5 a ha; exact ⟨o, k _ _ e, c⟩
  · obtain ⟨m, hm, hv⟩ := i9
    refine ⟨m, hm.keeps k, fun x vv e1 e2 => ?_⟩
    obtain ⟨u, a, b⟩ := hv x vv e1 e2
    exact ⟨u, a, b.grow k⟩
  · intro x vv e1 e2
    obtain ⟨c, u, a, b, d⟩ := i10 x vv e1 e2
    exact ⟨c, u, a, isCell_grow b k, d.grow k⟩
theorem InS.grow (I : InS prog w Hz hb s₀ X env C ρ O s) (k : Keeps s s') : InS prog w Hz hb s₀ X env C ρ O s' :=
  ⟨I.toInF.grow k, I.fc, I.finj, fun x c hc => let ⟨q, v, h⟩ := I.cello x c hc; ⟨q, v, isCell_grow h (keeps_grow k)⟩⟩
theorem InF.fresh (I : InF prog w Hz hb s₀ X env C ρ O s) {a : Addr} (h : s.heap.get? a = none) : s₀.heap.get? a = none ∧ a ∉ WW env C O := by
  constructor
  · cases e : s₀.heap.get? a with
    | none => rfl
    | some o => obtain ⟨o', e'⟩ := I.alive a o e; rw [h] at e'; exact no e'
  · intro hm
    obtain ⟨o, e, _⟩ := I.walive a hm
    rw [h] at e; exact no e
theorem InF.size_fresh (I : InF prog w Hz hb s₀ X env C ρ O s) : s₀.heap.get? s.heap.objs.size = none ∧ s.heap.objs.size ∉ WW env C O := I.fresh (get?_size_none _ (Nat.le_refl _))
end

structure Room (A : Around) (n : Nat) : Prop where
  handled : A.handled = none
  depth : A.depth + n + 100 < recursionLimit
  units : A.units + 8 * n + 100 < cLine
  frames : ∃ l, A.frames = some l
structure PlainEnv (env : Env) : Prop where
  gen : env.scope.isGenerator = false
  co : env.scope.isCoroutine = false
  bult : env.builtins = builtinsNs
  glob : env.globals = mainGlobals
structure RoomF (A : Around) (n : Nat) : Prop extends Room A n where
  top : ∃ env l, A.frames = some (env :: l) ∧ PlainEnv env
theorem Room.mono {A : Around} {m n : Nat} (h : Room A n) (hm : m ≤ n) : Room A m := ⟨h.handled, by have := h.depth; lia, by have := h.units; lia, h.frames⟩
theorem Room.deeper {A : Around} {n : Nat} {env : Env} (h : Room A (n + 1)) (p : PlainEnv env) : RoomF (A.deeper env) n := by
  obtain ⟨l, hl⟩ := h.frames
  refine ⟨⟨h.handled, (by show A.depth + 1 + n + 100 < _; have := h.depth; lia), (by show A.units + 3 + 8 * n + 100 < _; have := h.units; lia), ⟨env :: l, ?_⟩⟩, ⟨env, l, ?_, p⟩⟩ <;> (show A.frames.map _ = _; rw [hl]; rfl)
theorem RoomF.pylong {A : Around} {n : Nat} {s : Shared} {hb : Heap} (h : RoomF A n) (b : Base prog Hz hb s.heap) : PylongRoom (model prog w) A s := by
  obtain ⟨env, l, hf, p⟩ := h.top
  exact PylongRoom.of b.nolimit (by have := h.depth; show A.depth + 100 < _; lia) (SeerAt.of b.noseer b.tree hf p.gen p.co p.bult p.glob)

section
variable (prog : Program) (w : World) (Hz : List Addr) (hb : Heap)
noncomputable def Ev (n : Nat) (sc : Scope) (e : Expr) (m : Rho → Option V) : Prop :=
  ∀ ⦃A : Around⦄ ⦃Hz : List Addr⦄ ⦃env : Env⦄ ⦃s₀ : Shared⦄ ⦃X C : List Addr⦄ ⦃ρ : Rho⦄ ⦃O : List (String × List Addr)⦄ ⦃s : Shared⦄ ⦃v : V⦄ ⦃Q : Value → Shared → Prop⦄ ⦃E : Value → Shared → Prop⦄,
    env.scope = sc → RoomF A n → InF prog w Hz hb s₀ X env C ρ O s → m ρ = some v → (∀ u s', Keeps s s' → Rep prog w Hz s₀.heap (WW env C O) s'.heap u v → Q u s') → wpAny (model prog w) A (eval e env) Q E s
noncomputable def Tr (n : Nat) (sc : Scope) (e : Expr) (m : Rho → Option Bool) : Prop :=
  ∀ ⦃A : Around⦄ ⦃Hz : List Addr⦄ ⦃env : Env⦄ ⦃s₀ : Shared⦄ ⦃X C : List Addr⦄ ⦃ρ : Rho⦄ ⦃O : List (String × List Addr)⦄ ⦃s : Shared⦄ ⦃v : Bool⦄ ⦃Q : Bool → Shared → Prop⦄ ⦃E : Value → Shared → Prop⦄,
    env.scope = sc → RoomF A n → InF prog w Hz hb s₀ X env C ρ O s → m ρ = some v → (∀ s', Keeps s s' → Q v s') → wpAny (model prog w) A (isTrue e env (eval e env)) Q E s
noncomputable def Evs (n : Nat) (sc : Scope) (es : List Expr) (m : Rho → Option (List V)) : Prop :=
  ∀ ⦃A : Around⦄ ⦃Hz : List Addr⦄ ⦃env : Env⦄ ⦃s₀ : Shared⦄ ⦃X C : List Addr⦄ ⦃ρ : Rho⦄ ⦃O : List (String × List Addr)⦄ ⦃s : Shared⦄ ⦃vs : List V⦄ ⦃pos : Pos⦄ ⦃Q : List Value → Shared → Prop⦄ ⦃E : Value → Shared → Prop⦄,
    env.scope = sc → RoomF A n → InF prog w Hz hb s₀ X env C ρ O s → m ρ = some vs → (∀ us s', Keeps s s' → Reps prog w Hz s₀.heap (WW env C O) s'.heap us vs → Q us s') →
    wpAny (model prog w) A (spliced (backTo pos (starEach es env))) Q E s
inductive Out where
  | next (ρ : Rho)
  | brk (ρ : Rho)
  | cont (ρ : Rho)
  | ret (x : PyData)
  | retT (x : PyData) (ρ : Rho)
structure Step (h h' : Heap) (W W' : List Addr) : Prop where
  keep : ∀ b o, h.get? b = some o → b ∉ W → h'.get? b = some o
  new : ∀ a ∈ W', a ∈ W ∨ h.get? a = none
theorem Step.of_grow {h h' : Heap} {W : List Addr} (k : Grow h h') : Step h h' W W := ⟨fun b o e _ => k b o e, fun _ h => .inl h⟩
theorem Step.refl (h : Heap) (W : List Addr) : Step h h W W := Step.of_grow (Grow.refl h)
theorem Step.trans {h h' h'' : Heap} {W W' W'' : List Addr} (x : Step h h' W W') (y : Step h' h'' W' W'') : Step h h'' W W'' := by
  refine ⟨fun b o e hb => y.keep b o (x.keep b o e hb) fun hw => ?_, fun a ha => ?_⟩
  · rcases x.new b hw with q | q
    · exact hb q
    · rw [e] at q; cases q
  · rcases y.new a ha with q | q
    · exact x.new a q
    · cases e : h.get? a with
      | none => exact .inr rfl
      | some o =>
        by_cases hw : a ∈ W
        · exact .inl hw
        · rw [x.keep a o e hw] at q; cases q
noncomputable def Ends (s₀ : Shared) (X : List Addr) (env : Env) (C : List Addr) (O : List (String × List Addr)) (s : Shared) (r : Out) (Q : Flow → Shared → Prop) : Prop :=
  match r with
  | .next ρ => ∀ O' s', InS prog w Hz hb s₀ X env C ρ O' s' → Step s.heap s'.heap (WW env C O) (WW env C O') → Q .next s'
  | .brk ρ => ∀ O' s', InS prog w Hz hb s₀ X env C ρ O' s' → Step s.heap s'.heap (WW env C O) (WW env C O') → Q .brk s'
  | .cont ρ => ∀ O' s', InS prog w Hz hb s₀ X env C ρ O' s' → Step s.heap s'.heap (WW env C O) (WW env C O') → Q .cont s'
  | .ret x => ∀ u as O' ρ s', InS prog w Hz hb s₀ X env C ρ O' s' → RD prog w Hz s'.heap u x as → wf x = true → (∀ a ∈ as, a ∈ X ∨ s₀.heap.get? a = none) → Q (.ret u) s'
  | .retT x ρ => ∀ u O' s', InS prog w Hz hb s₀ X env C ρ O' s' → RD prog w Hz s'.heap u x [] → wf x = true → Q (.ret u) s'
variable {prog w Hz hb} in
theorem Ends.trans {s₀ : Shared} {X : List Addr} {env : Env} {C : List Addr} {O O' : List (String × List Addr)} {s s' : Shared} {r : Out} {Q : Flow → Shared → Prop} (k : Step s.heap s'.heap (WW env C O) (WW env C O'))
    (h : Ends prog w Hz hb s₀ X env C O s r Q) : Ends prog w Hz hb s₀ X env C O' s' r Q := by
  induction r with
  | next ρ => exact fun O'' s'' I t => h O'' s'' I (k.trans t)
  | brk ρ => exact fun O'' s'' I t => h O'' s'' I (k.trans t)
  | cont ρ => exact fun O'' s'' I t => h O'' s'' I (k.trans t)
  | ret x => exact h
  | retT x ρ => exact h
noncomputable def St (n : Nat) (sc : Scope) (ss : List Stmt) (m : Rho → Option Out) : Prop :=
  ∀ ⦃A : Around⦄ ⦃Hz : List Addr⦄ ⦃env : Env⦄ ⦃s₀ : Shared⦄ ⦃X C : List Addr⦄ ⦃ρ : Rho⦄ ⦃O : List (String × List Addr)⦄ ⦃s : Shared⦄ ⦃r : Out⦄ ⦃Q : Flow → Shared → Prop⦄ ⦃E : Value → Shared → Prop⦄,
    env.scope = sc → RoomF A n → InS prog w Hz hb s₀ X env C ρ O s → m ρ = some r → Ends prog w Hz hb s₀ X env C O s r Q → wpAny (model prog w) A (execs ss env) Q E s
noncomputable def Fn (n : Nat) (f : Addr) (m : List PyData → Option PyData) : Prop :=
  ∀ ⦃A : Around⦄ ⦃Hz : List Addr⦄ ⦃s : Shared⦄ ⦃us : List Value⦄ ⦃xs : List PyData⦄ ⦃as : List Addr⦄ ⦃y : PyData⦄ ⦃Q : Value → Shared → Prop⦄ ⦃E : Value → Shared → Prop⦄,
    Room A n → Base prog Hz hb s.heap → RDs prog w Hz s.heap us xs as → wfs xs = true → m xs = some y →
    (∀ u as s', Keeps s s' → RD prog w Hz s'.heap u y as → wf y = true → (∀ a ∈ as, s.heap.get? a = none) → Q u s') → wpAny (model prog w) A (call (.ref f) us) Q E s
end
end

section
variable {prog : Program} {w : World} {Hz : List Addr} {hb : Heap} {n : Nat} {sc : Scope}

noncomputable def isVar (sc : Scope) (x : String) : Bool := (decide (sc.names.lookup (Str.ofString x) = some .local) || decide (sc.names.lookup (Str.ofString x) = some .cell)) && !(Str.ofString x == ("__debug__" : Str))
noncomputable def rdVar : VV → Option V
  | .val v => some v
  | .own (.lst xs) => some ⟨.list xs, .t⟩
  | .own (.dct kvs) => some ⟨dictOf kvs, .t⟩
  | .own (.tree _ x) => some ⟨x, .t⟩
theorem RepVV.rd {s₀ : Heap} {W : List Addr} {O : List (String × List Addr)} {h : Heap} {x : String} {u : Value} {vv : VV} {v : V} (r : RepVV prog w Hz s₀ W O h x u vv) (e : rdVar vv = some v) : Rep prog w Hz s₀ W h u v := by
  induction vv with
  | val v' => (have e := si e; subst e; clear e); exact r.2
  | own o =>
    obtain ⟨sp, _, r⟩ := r
    induction r with
    | lst a b c d => (have e := si e; subst e; clear e); exact ⟨_, .list a b, c, trivial⟩
    | dct a g b c d => (have e := si e; subst e; clear e); exact ⟨_, .dict a g b c, d, trivial⟩
    | tree a b c _ _ => (have e := si e; subst e; clear e); exact ⟨_, a, c, trivial⟩
theorem Ev.var {x : String} {pos : Pos} (hv : isVar sc x = true) : Ev prog w hb n sc (.Name (Str.ofString x) pos) (fun ρ => (ρ x).bind rdVar) := by
  intro A Hz env s₀ X C ρ O s v Q E hs hr I hm hQ
  subst hs
  obtain ⟨vv, e1, e2⟩ := bindE hm
  simp only [isVar, Bool.and_eq_true, Bool.or_eq_true, decide_eq_true_eq, Bool.not_eq_true'] at hv
  obtain ⟨hv, hd⟩ := hv
  rcases hv with hv | hv
  · obtain ⟨m, hns, hx⟩ := I.ns
    obtain ⟨u, hu, r⟩ := hx x vv e1 hv
    exact wpAny_Name (wpAny_loadName_local I.kind hv hns hu (hQ u s (keeps_refl s) (r.rd e2))) hd
  · obtain ⟨c, u, hc, hu, r⟩ := I.cell x vv e1 hv
    exact wpAny_Name (wpAny_loadName_cell I.kind hv hc hu (hQ u s (keeps_refl s) (r.rd e2))) hd
theorem Ev.cint {i : Int} {k : Nat} {pos : Pos} : Ev prog w hb n sc (.Constant (.int i) k pos) (fun _ => some ⟨.int i, .d⟩) := by
  intro A Hz env s₀ X C ρ O s v Q E hs hr I hm hQ
  (have e := si hm; subst e; clear hm)
  exact wpAny_Constant_int (hQ _ _ (keeps_toks s _) Rep.int)
theorem Ev.cnone {k : Nat} {pos : Pos} : Ev prog w hb n sc (.Constant .none k pos) (fun _ => some ⟨.none, .d⟩) := by
  intro A Hz env s₀ X C ρ O s v Q E hs hr I hm hQ
  (have e := si hm; subst e; clear hm)
  exact wpAny_Constant_none (hQ _ _ (keeps_refl s) Rep.none)
theorem Ev.cbool {b : Bool} {k : Nat} {pos : Pos} : Ev prog w hb n sc (.Constant (.bool b) k pos) (fun _ => some ⟨.bool b, .d⟩) := by
  intro A Hz env s₀ X C ρ O s v Q E hs hr I hm hQ
  (have e := si hm; subst e; clear hm)
  exact wpAny_Constant_bool (hQ _ _ (keeps_refl s) Rep.bool)
theorem Ev.cstr {x : Str} {k : Nat} {pos : Pos} (hx : wf (.str x) = true) : Ev prog w hb n sc (.Constant (.str x) k pos) (fun _ => some ⟨.str x, .d⟩) := by
  intro A Hz env s₀ X C ρ O s v Q E hs hr I hm hQ
  (have e := si hm; subst e; clear hm)
  exact wpAny_Constant_str (hQ _ _ (keeps_toks s _) (Rep.str hx))

noncomputable def smallInt (a : Int) : Bool := decide (Builtin.Int.intBits a ≤ 64)
noncomputable def addD : PyData → PyData → Option PyData
  | .int a, .int b => some (.int (a + b))
  | .str x, .str y => if x.length + y.length ≤ sizeLine then some (.str (x ++ y)) else none
  | .list xs, .list ys => if xs.length + ys.length ≤ sizeLine then some (.list (xs ++ ys)) else none
  | _, _ => none
noncomputable def mulD : PyData → PyData → Option PyData
  | .int a, .int b => if smallInt a || smallInt b then some (.int (a * b)) else none
  | .str x, .int k => if k = 0 then some (.str Str.empty) else if k = 1 then some (.str x) else none
  | _, _ => none
noncomputable def intsD (f : Int → Int → Option Int) : PyData → PyData → Option PyData
  | .int a, .int b => (f a b).map .int
  | _, _ => none
noncomputable def aBin (op : Operator) (x y : PyData) : Option PyData := match op with
  | .Add => addD x y
  | .Sub => intsD (fun a b => some (a - b)) x y
  | .Mult => mulD x y
  | .FloorDiv => intsD (fun a b => if b = 0 then none else some (a.fdiv b)) x y
  | .Mod => intsD (fun a b => if b = 0 then none else some (a.fmod b)) x y
  | _ => none
inductive IntsI (f : Int → Int → Option Int) : PyData → PyData → PyData → Prop
  | mk (a b c : Int) (h : f a b = some c) : IntsI f (.int a) (.int b) (.int c)
inductive AddI : PyData → PyData → PyData → Prop
  | int (a b : Int) : AddI (.int a) (.int b) (.int (a + b))
  | str (a b : Str) (h : a.length + b.length ≤ sizeLine) : AddI (.str a) (.str b) (.str (a ++ b))
  | list (a b : List PyData) (h : a.length + b.length ≤ sizeLine) : AddI (.list a) (.list b) (.list (a ++ b))
inductive MulI : PyData → PyData → PyData → Prop
  | int (a b : Int) (h : (smallInt a || smallInt b) = true) : MulI (.int a) (.int b) (.int (a * b))
  | zero (a : Str) : MulI (.str a) (.int 0) (.str Str.empty)
  | one (a : Str) : MulI (.str a) (.int 1) (.str a)
theorem intsD_some {f : Int → Int → Option Int} {x y z : PyData} (h : intsD f x y = some z) : IntsI f x y z := by
  cases x with
  | int a => cases y with
    | int b => induction mapE (o := f a b) h with | mk c h1 => ?_; exact ⟨a, b, c, h1⟩
    | _ => exact no h
  | _ => exact no h
theorem addD_some {x y z : PyData} (h : addD x y = some z) : AddI x y z := by
  cases x with
  | int a => cases y with
    | int b => (have e := si h; subst e; clear h); exact .int a b
    | _ => exact no h
  | str a => cases y with
    | str b => exact ifI (c := a.length + b.length ≤ sizeLine) (o := some (PyData.str (a ++ b))) (fun hz h => by (have e := si h; subst e; clear h); exact .str a b hz) h
    | _ => exact no h
  | list a => cases y with
    | list b => exact ifI (c := a.length + b.length ≤ sizeLine) (o := some (PyData.list (a ++ b))) (fun hz h => by (have e := si h; subst e; clear h); exact .list a b hz) h
    | _ => exact no h
  | _ => exact no h
theorem mulD_some {x y z : PyData} (h : mulD x y = some z) : MulI x y z := by
  cases x with
  | int a => cases y with
    | int b => exact ifI (c := (smallInt a || smallInt b) = true) (o := some (PyData.int (a * b))) (fun hz h => by (have e := si h; subst e; clear h); exact .int a b hz) h
    | _ => exact no h
  | str a => cases y with
    | int k =>
      by_cases h0 : k = 0
      · subst h0; (have e := si h; subst e; clear h); exact .zero a
      · replace h : (if k = 1 then some (PyData.str a) else none) = some z := (if_neg h0).symm.trans h
        revert h
        refine ifI fun h1 h => ?_
        subst h1; (have e := si h; subst e; clear h); exact .one a
    | _ => exact no h
  | _ => exact no h
noncomputable def Fl.join : Fl → Fl → Fl
  | .d, .d => .d
  | .t, _ => .t
  | _, .t => .t
  | _, _ => .s
noncomputable def V.newL (xs : List PyData) (f : Fl) : V := ⟨.list xs, if flats xs then .d else f⟩
noncomputable def aBinV (op : Operator) (a b : V) : Option V :=
  (aBin op a.x b.x).map fun x => match x with
    | .list xs => V.newL xs (a.fl.join b.fl)
    | x => ⟨x, .d⟩
theorem FlOk.join_l {s₀ : Heap} {W : List Addr} {f g : Fl} {as : List Addr} (h : FlOk s₀ W f as) : FlOk s₀ W (f.join g) as := by
  cases f <;> cases g <;> first | exact h | trivial | exact fun a ha => (h a ha).2
theorem FlOk.join_r {s₀ : Heap} {W : List Addr} {f g : Fl} {as : List Addr} (h : FlOk s₀ W g as) : FlOk s₀ W (f.join g) as := by
  cases f <;> cases g <;> first | exact h | trivial | exact fun a ha => (h a ha).2
section
variable {A : Around} {env : Env} {s₀ : Shared} {X C : List Addr} {ρ : Rho} {O : List (String × List Addr)} {s : Shared} {E : Value → Shared → Prop}
theorem InF.newL (I : InF prog w Hz hb s₀ X env C ρ O s) {vs : List Value} {xs : List PyData} {as : List Addr} {f : Fl} (r : RDs prog w Hz s.heap vs xs as) (c : wf (.list xs) = true) (o : FlOk s₀.heap (WW env C O) f as) {m : Nat} :
    Rep prog w Hz s₀.heap (WW env C O) (s.heap.push (lstObj vs m)) (.ref s.heap.objs.size) (V.newL xs f) := by
  have k := Grow.push s.heap (lstObj vs m)
  refine ⟨s.heap.objs.size :: as, .list (Heap.get?_push_size _ rfl) (r.grow k), c, ?_⟩
  have z := I.size_fresh
  cases e : flats xs with
  | true =>
    rw [r.flat_foot e]
    simp only [V.newL, e, if_true]
    intro a ha
    rw [List.mem_singleton.mp ha]; exact z
  | false =>
    simp only [V.newL, e, Bool.false_eq_true, if_false]
    induction f with
    | d => exact fun a ha => (List.mem_cons.mp ha).elim (fun q => q ▸ z) (o a)
    | s => exact fun a ha => (List.mem_cons.mp ha).elim (fun q => q ▸ z.2) (o a)
    | t => trivial
theorem InF.newT (I : InF prog w Hz hb s₀ X env C ρ O s) {vs : List Value} {xs : List PyData} {as : List Addr} {f : Fl} (r : RDs prog w Hz s.heap vs xs as) (c : wf (.tuple xs) = true) (o : FlOk s₀.heap (WW env C O) f as) {m : Nat} :
    Rep prog w Hz s₀.heap (WW env C O) (s.heap.push (tupObj vs m)) (.ref s.heap.objs.size) (V.fix (.tuple xs) f) :=
  let _ := I
  Rep.fixed (.tuple (Heap.get?_push_size _ rfl) (fun hm => by obtain ⟨_, o, e, _⟩ := I.base.hide _ hm; exact absurd (Heap.lt_size e) (Nat.lt_irrefl _)) (r.grow (Grow.push s.heap (tupObj vs m)))) c o
theorem strOk_append {x y : Str} (hx : PyData.strOk x = true) (hy : PyData.strOk y = true) : PyData.strOk (x ++ y) = true := by
  unfold PyData.strOk at *
  rw [Str.cps_append, Array.all_append, hx, hy]; rfl
theorem str_empty_of {x : Str} (h : (x.length == 0) = true) : x = Str.empty := by
  obtain ⟨c⟩ := x
  have : c = #[] := by simpa [Str.length] using h
  rw [this]; rfl
theorem wf_str {x : Str} : wf (.str x) = true ↔ PyData.strOk x = true ∧ x.length ≤ sizeLine := by simp [wf]
theorem wf_list {xs : List PyData} : wf (.list xs) = true ↔ xs.length ≤ sizeLine ∧ wfs xs = true := by simp [wf]
theorem wf_tuple {xs : List PyData} : wf (.tuple xs) = true ↔ xs.length ≤ sizeLine ∧ wfs xs = true := by simp [wf]
theorem wf_empty : wf (.str Str.empty) = true := by decide +kernel
theorem made_str_append {x y : Str} {t u : Tok} {Q : Value → Shared → Prop} (hz : x.length + y.length ≤ sizeLine) (h : ∀ v tk, v = .str (x ++ y) tk → ∀ s', Keeps s s' → Q v s') :
    (if x.length == 0 then Made.val (.str y u) else if y.length == 0 then Made.val (.str x t) else Made.str (x ++ y)).post Q s := by
  split
  · rename_i e
    have : x ++ y = y := by rw [str_empty_of e, Str.empty_append]
    rw [← this]
    exact h _ _ rfl _ (keeps_refl s)
  · split
    · rename_i e
      have : x ++ y = x := by rw [str_empty_of e, Str.append_empty]
      rw [← this]
      exact h _ _ rfl _ (keeps_refl s)
    · exact ⟨by rw [Str.length_append]; exact hz, h _ _ rfl _ (keeps_toks s _)⟩
theorem bin_ok {op : Operator} {a b v : V} {u₁ u₂ : Value} {Q : Value → Shared → Prop} (hr : RoomF A n) (I : InF prog w Hz hb s₀ X env C ρ O s) (h : aBinV op a b = some v)
    (r₁ : Rep prog w Hz s₀.heap (WW env C O) s.heap u₁ a) (r₂ : Rep prog w Hz s₀.heap (WW env C O) s.heap u₂ b) (hQ : ∀ u s', Keeps s s' → Rep prog w Hz s₀.heap (WW env C O) s'.heap u v → Q u s') :
    wpAny (model prog w) A (binaryOp op u₁ u₂) Q E s := by
  obtain ⟨x, hx, hv⟩ := Option.map_eq_some_iff.mp h
  obtain ⟨ax, af⟩ := a
  obtain ⟨bx, bf⟩ := b
  obtain ⟨as, ra, ca, oa⟩ := r₁
  obtain ⟨bs, rb, cb, ob⟩ := r₂
  dsimp only at hx ra rb ca cb oa ob hv
  clear h
  have hi : ∀ {c : Int}, (match (PyData.int c) with | .list xs => V.newL xs (af.join bf) | x => ⟨x, .d⟩) = v → ∀ s', Keeps s s' → ∀ t, Q (.int c t) s' := by
    rintro c rfl s' k t
    exact hQ _ _ k Rep.int
  induction op with
  | Add =>
    induction addD_some hx with
    | int a b =>
      induction ra.intI with | mk t => ?_
      induction rb.intI with | mk t' => ?_
      exact P.add_int (hi hv _ (keeps_toks s _) _)
    | str a b hz =>
      induction ra.strI with | mk t => ?_
      induction rb.strI with | mk t' => ?_
      subst hv
      rw [wf_str] at ca cb
      refine P.add_str (made_str_append hz fun v tk e s' k => ?_)
      subst e
      exact hQ _ _ k (Rep.str (wf_str.mpr ⟨strOk_append ca.1 cb.1, by rw [Str.length_append]; exact hz⟩))
    | list a b hz =>
      induction ra.listI with | mk d us m cs a1 a2 => ?_
      induction rb.listI with | mk d' us' m' cs' b1 b2 => ?_
      subst hv
      rw [wf_list] at ca cb
      refine P.add_list a1 b1 ?_ (by simpa [a2.length, b2.length] using hz)
      rw [List.append_toArray]
      refine hQ _ _ (keeps_push s _) (I.newL (a2.append b2) (wf_list.mpr ⟨by simpa using hz, by rw [wfs_append, ca.2, cb.2]; rfl⟩) ?_)
      exact FlOk.append ((oa.mono fun a h => .tail _ h).join_l) ((ob.mono fun a h => .tail _ h).join_r)
  | Sub =>
    induction intsD_some hx with | mk a b c e => ?_
    (have e := si e; subst e; clear e)
    have H := ra.intI; clear ra; induction H with | mk t => ?_
    have H := rb.intI; clear rb; induction H with | mk t' => ?_
    exact P.sub_int (hi hv _ (keeps_toks s _) _)
  | Mult =>
    induction mulD_some hx with
    | int a b hs =>
      induction ra.intI with | mk t => ?_
      induction rb.intI with | mk t' => ?_
      refine P.mul_int (hi hv _ (keeps_toks s _) _) ?_
      simp only [smallInt, Bool.or_eq_true, decide_eq_true_eq] at hs
      exact hs.elim IntMulOk.of_left IntMulOk.of_right
    | zero a =>
      induction ra.strI with | mk t => ?_
      induction rb.intI with | mk t' => ?_
      subst hv
      exact P.mul_str_none (Int.le_refl 0) (by decide) (hQ _ _ (keeps_toks s _) (Rep.str wf_empty))
    | one a =>
      induction ra.strI with | mk t => ?_
      induction rb.intI with | mk t' => ?_
      subst hv
      refine P.mul_str (by decide) (fun _ e => by simp at e) (fun _ e => by simp at e) ?_
      exact hQ _ _ (keeps_refl s) (Rep.str ca)
  | FloorDiv =>
    induction intsD_some hx with | mk a b c e => ?_
    induction ra.intI with | mk t => ?_
    induction rb.intI with | mk t' => ?_
    by_cases hz : b = 0
    · rw [if_pos hz] at e; exact no e
    · rw [if_neg hz] at e; (have e := si e; subst e; clear e)
      exact PyProof.Rows.floordiv_int hz (hi hv _ (keeps_toks s _) _) (.inr (hr.pylong I.base))
  | Mod =>
    induction intsD_some hx with | mk a b c e => ?_
    induction ra.intI with | mk t => ?_
    induction rb.intI with | mk t' => ?_
    by_cases hz : b = 0
    · rw [if_pos hz] at e; exact no e
    · rw [if_neg hz] at e; (have e := si e; subst e; clear e)
      exact PyProof.Rows.mod_int' hz (hi hv _ (keeps_toks s _) _)
  | _ => exact no hx

noncomputable def aTruth : PyData → Option Bool
  | .none => some false
  | .bool b => some b
  | .int i => some (i != 0)
  | .str x => some ((x.length : Int) != 0)
  | .list xs => some (!xs.isEmpty)
  | _ => none
theorem sizeLine_small : (sizeLine : Int) < 2 ^ 63 := by decide
theorem isEmpty_len {α β : Type} {xs : List α} {ys : List β} (h : xs.length = ys.length) : xs.isEmpty = ys.isEmpty := by
  cases xs <;> cases ys <;> simp_all
theorem truth_ok {a : V} {b : Bool} {u : Value} {Q : Bool → Shared → Prop} {W : List Addr} {s₀ : Heap} (h : aTruth a.x = some b) (r : Rep prog w Hz s₀ W s.heap u a) (hQ : ∀ s', Keeps s s' → Q b s') :
    wpAny (model prog w) A (truthy u) Q E s := by
  obtain ⟨ax, af⟩ := a
  obtain ⟨as, ra, ca, oa⟩ := r
  dsimp only at h ra ca oa
  cases ax with
  | none => (have e := si h; subst e; clear h); cases ra.none_inv; exact fun _ _ _ => hQ _ (keeps_refl s)
  | bool b => (have e := si h; subst e; clear h); cases ra.bool_inv; exact wpAny_truthy_bool (hQ _ (keeps_refl s))
  | int i => (have e := si h; subst e; clear h); induction ra.intI with | mk t => ?_; exact P.truthy_int (hQ _ (keeps_refl s))
  | str x =>
    (have e := si h; subst e; clear h)
    induction ra.strI with | mk t => ?_
    rw [wf_str] at ca
    exact P.truthy_str (by have := sizeLine_small; have := ca.2; lia) (hQ _ (keeps_toks s _))
  | list xs =>
    (have e := si h; subst e; clear h)
    have H := ra.listI; clear ra; induction H with | mk d us m cs a1 a2 => ?_
    rw [wf_list] at ca
    have hl := a2.length
    refine wpAny_truthy_list ⟨_, a1, rfl, _, rfl⟩ (by have := sizeLine_small; have := ca.1; simp; lia) ?_
    rw [List.isEmpty_toArray, isEmpty_len hl]
    exact hQ _ (keeps_toks s _)
  | _ => exact no h
noncomputable def isNone : PyData → Bool
  | .none => true
  | _ => false
noncomputable def hasKey (k : Str) : List (PyData × PyData) → Bool
  | [] => false
  | (.str x, _) :: r => decide (x = k) || hasKey k r
  | _ :: r => hasKey k r
noncomputable def cmpI (f : Int → Int → Bool) : PyData → PyData → Option Bool
  | .int a, .int b => some (f a b)
  | _, _ => none
noncomputable def cmpE (x y : PyData) : Option Bool := if nd x && nd y && decide (min x.depth y.depth ≤ 60) then some (PyData.eqv x y) else none
noncomputable def cmpN (x y : PyData) : Option Bool := match y with
  | .none => some (isNone x)
  | _ => none
noncomputable def inSeq (x : PyData) (ys : List PyData) : Option Bool := if nd x && nds ys && decide (min (PyData.depthAll ys) x.depth ≤ 60) then some (ys.any fun y => PyData.eqv y x) else none
noncomputable def keyOf : PyData → Option Str
  | .str k => some k
  | _ => none
noncomputable def inD (k : Str) (kvs : List (PyData × PyData)) : Option Bool := if plainK kvs = true then some (hasKey k kvs) else none
theorem inD_map {α : Type} (f : α → Str) (g : α → PyData) (k : Str) (xs : List α) : inD k (xs.map fun p => (.str (f p), g p)) = some (hasKey k (xs.map fun p => (.str (f p), g p))) := if_pos (plainK_map f g xs)
noncomputable def cmpIn (x y : PyData) : Option Bool := match y with
  | .list ys => inSeq x ys
  | .tuple ys => inSeq x ys
  | .dict kvs => (keyOf x).bind fun k => inD k kvs
  | .str s => (keyOf x).map fun k => !(Builtin.Str.occurrences s k 0 s.length 1).isEmpty
  | _ => none
noncomputable def aCmp (op : CmpOp) (x y : PyData) : Option Bool := match op with
  | .Lt => cmpI (fun a b => decide (a < b)) x y
  | .LtE => cmpI (fun a b => decide (a ≤ b)) x y
  | .Gt => cmpI (fun a b => decide (a > b)) x y
  | .GtE => cmpI (fun a b => decide (a ≥ b)) x y
  | .Eq => cmpE x y
  | .NotEq => (cmpE x y).map (!·)
  | .Is => cmpN x y
  | .IsNot => (cmpN x y).map (!·)
  | .In => cmpIn x y
  | .NotIn => (cmpIn x y).map (!·)
inductive CmpII (f : Int → Int → Bool) : PyData → PyData → Bool → Prop
  | mk (a b : Int) : CmpII f (.int a) (.int b) (f a b)
theorem cmpI_some {f : Int → Int → Bool} {x y : PyData} {c : Bool} (h : cmpI f x y = some c) : CmpII f x y c := by
  cases x with
  | int a => cases y with
    | int b => (have e := si h; subst e; clear h); exact ⟨a, b⟩
    | _ => exact no h
  | _ => exact no h
theorem cmpE_some {x y : PyData} {c : Bool} (h : cmpE x y = some c) : nd x = true ∧ nd y = true ∧ min x.depth y.depth ≤ 60 ∧ c = PyData.eqv x y := by
  unfold cmpE at h
  split at h
  · rename_i hc
    simp only [Bool.and_eq_true, decide_eq_true_eq] at hc
    exact ⟨hc.1.1, hc.1.2, hc.2, (Option.some.inj h).symm⟩
  · exact no h
inductive CmpNI (x : PyData) : PyData → Bool → Prop
  | mk : CmpNI x .none (isNone x)
theorem cmpN_some {x y : PyData} {c : Bool} (h : cmpN x y = some c) : CmpNI x y c := by
  cases y with
  | none => (have e := si h; subst e; clear h); exact ⟨⟩
  | _ => exact no h
theorem inSeq_some {x : PyData} {ys : List PyData} {c : Bool} (h : inSeq x ys = some c) : nd x = true ∧ nds ys = true ∧ min (PyData.depthAll ys) x.depth ≤ 60 ∧ c = ys.any fun y => PyData.eqv y x := by
  unfold inSeq at h
  split at h
  · rename_i hc
    simp only [Bool.and_eq_true, decide_eq_true_eq] at hc
    exact ⟨hc.1.1, hc.1.2, hc.2, (Option.some.inj h).symm⟩
  · exact no h
theorem keyOf_some {x : PyData} {k : Str} (h : keyOf x = some k) : x = .str k := by
  cases x with
  | str s => (have e := si h; subst e; clear h); rfl
  | _ => exact no h
inductive InI : PyData → PyData → Bool → Prop
  | list (x : PyData) (ys : List PyData) (c : Bool) (h : inSeq x ys = some c) : InI x (.list ys) c
  | tuple (x : PyData) (ys : List PyData) (c : Bool) (h : inSeq x ys = some c) : InI x (.tuple ys) c
  | dict (k : Str) (kvs : List (PyData × PyData)) (h : plainK kvs = true) : InI (.str k) (.dict kvs) (hasKey k kvs)
  | str (k s : Str) : InI (.str k) (.str s) (!(Builtin.Str.occurrences s k 0 s.length 1).isEmpty)
theorem cmpIn_some {x y : PyData} {c : Bool} (h : cmpIn x y = some c) : InI x y c := by
  cases y with
  | list ys => exact .list x ys c h
  | tuple ys => exact .tuple x ys c h
  | dict kvs =>
    revert h
    refine bindI fun k h1 => ifI fun hp h => ?_
    obtain rfl := keyOf_some h1
    (have e := si h; subst e; clear h); exact .dict k kvs hp
  | str s =>
    induction mapE (o := keyOf x) h with | mk k h1 => ?_
    obtain rfl := keyOf_some h1
    exact .str k s
  | _ => exact no h
theorem RD.isNone_eq {h : Heap} {u : Value} {x : PyData} {as : List Addr} (r : RD prog w Hz h u x as) : (u == .none) = isNone x := by
  cases r <;> rfl
theorem hasKey_dictOf (k : Str) : ∀ {kvs : List (Str × Value)} {xs : List (Str × PyData)}, kvs.map (·.1) = xs.map (·.1) → hasKey k (xs.map fun p => (.str p.1, p.2)) = (valueAt kvs k).isSome
  | [], [], _ => rfl
  | [], _ :: _, h => by simp at h
  | _ :: _, [], h => by simp at h
  | (a, v) :: kvs, (b, x) :: xs, h => by
    simp only [List.map_cons, List.cons.injEq] at h
    obtain ⟨rfl, h⟩ := h
    simp only [List.map_cons, hasKey, hasKey_dictOf k h, valueAt, List.find?_cons]
    by_cases e : a = k <;> simp [e]
theorem strKey (x : Str) (t : Tok) : (strKind prog w).is x (.str x t) = true := by simp [strKind, Value.isStrOf]
theorem cmp_ok {op : CmpOp} {a b : V} {c : Bool} {u₁ u₂ : Value} {Q : Value → Shared → Prop} (hr : RoomF A n) {W : List Addr} {s₀ : Heap} (h : aCmp op a.x b.x = some c)
    (r₁ : Rep prog w Hz s₀ W s.heap u₁ a) (r₂ : Rep prog w Hz s₀ W s.heap u₂ b) (hQ : ∀ s', Keeps s s' → Q (.bool c) s') :
    wpAny (model prog w) A (compareOp op u₁ u₂) Q E s := by
  obtain ⟨ax, af⟩ := a
  obtain ⟨bx, bf⟩ := b
  obtain ⟨as, ra, ca, oa⟩ := r₁
  obtain ⟨bs, rb, cb, ob⟩ := r₂
  have hu := hr.units
  dsimp only at h ra rb ca cb oa ob
  clear oa ob hr
  induction op with
  | Lt =>
    induction cmpI_some h with | mk a b => ?_
    induction ra.intI with | mk t => ?_
    induction rb.intI with | mk t' => ?_
    exact P.lt_int (hQ _ (keeps_refl s))
  | LtE =>
    induction cmpI_some h with | mk a b => ?_
    induction ra.intI with | mk t => ?_
    induction rb.intI with | mk t' => ?_
    exact P.le_int (hQ _ (keeps_refl s))
  | Gt =>
    induction cmpI_some h with | mk a b => ?_
    induction ra.intI with | mk t => ?_
    induction rb.intI with | mk t' => ?_
    exact P.gt_int (hQ _ (keeps_refl s))
  | GtE =>
    induction cmpI_some h with | mk a b => ?_
    induction ra.intI with | mk t => ?_
    induction rb.intI with | mk t' => ?_
    exact P.ge_int (hQ _ (keeps_refl s))
  | Eq =>
    obtain ⟨n1, n2, n3, rfl⟩ := cmpE_some h
    have c1 := can_of _ ca n1
    have c2 := can_of _ cb n2
    exact SeqAt.compareEq_reads (ra.reads c1) (rb.reads c2) c1 c2 (by lia) (hQ _ (keeps_refl s))
  | NotEq =>
    induction mapE h with | mk c' hc => ?_
    obtain ⟨n1, n2, n3, rfl⟩ := cmpE_some hc
    have c1 := can_of _ ca n1
    have c2 := can_of _ cb n2
    exact SeqAt.compareNe_reads (ra.reads c1) (rb.reads c2) c1 c2 (by lia) (hQ _ (keeps_refl s))
  | Is =>
    induction cmpN_some h
    cases rb.none_inv
    refine is_none ?_
    rw [ra.isNone_eq]; exact hQ _ (keeps_refl s)
  | IsNot =>
    induction mapE h with | mk c' hc => ?_
    induction cmpN_some hc
    cases rb.none_inv
    refine isNot_none ?_
    rw [ra.isNone_eq]; exact hQ _ (keeps_refl s)
  | In =>
    have hc : cmpIn ax bx = some c := h
    clear h
    induction cmpIn_some hc with
    | list _ ys _ hc =>
      obtain ⟨n1, n2, n3, rfl⟩ := inSeq_some hc
      have c1 := can_of _ ca n1
      have c2 := cans_of _ (wf_list.mp cb).2 n2
      exact SeqAt.in_list_reads (rb.reads (by simpa [PyData.canLay0] using c2)) (ra.reads c1) c2 c1 (by lia) (hQ _ (keeps_refl s))
    | tuple _ ys _ hc =>
      obtain ⟨n1, n2, n3, rfl⟩ := inSeq_some hc
      have c1 := can_of _ ca n1
      have c2 := cans_of _ (wf_tuple.mp cb).2 n2
      exact SeqAt.in_tuple_reads (rb.reads (by simpa [PyData.canLay0] using c2)) (ra.reads c1) c2 c1 (by lia) (hQ _ (keeps_refl s))
    | dict k kvs hpk =>
      induction ra.strI with | mk t => ?_
      induction rb.dictI hpk with | mk d ks xs es b1 b2 b3 b4 => ?_
      refine wpAny_in_of (strKey _ _) b2 b1.mapOf ?_
      rw [← hasKey_dictOf _ b3]
      exact hQ _ (keeps_toks s _)
    | str k z =>
      induction ra.strI with | mk t => ?_
      induction rb.strI with | mk t' => ?_
      exact P.in_str (hQ _ (keeps_refl s))
  | NotIn =>
    induction mapE (o := cmpIn ax bx) h with | mk c' hc => ?_
    clear h
    induction cmpIn_some hc with
    | list _ ys _ hc =>
      obtain ⟨n1, n2, n3, rfl⟩ := inSeq_some hc
      have c1 := can_of _ ca n1
      have c2 := cans_of _ (wf_list.mp cb).2 n2
      exact SeqAt.notIn_list_reads (rb.reads (by simpa [PyData.canLay0] using c2)) (ra.reads c1) c2 c1 (by lia) (hQ _ (keeps_refl s))
    | tuple _ ys _ hc =>
      obtain ⟨n1, n2, n3, rfl⟩ := inSeq_some hc
      have c1 := can_of _ ca n1
      have c2 := cans_of _ (wf_tuple.mp cb).2 n2
      exact SeqAt.notIn_tuple_reads (rb.reads (by simpa [PyData.canLay0] using c2)) (ra.reads c1) c2 c1 (by lia) (hQ _ (keeps_refl s))
    | dict k kvs hpk =>
      induction ra.strI with | mk t => ?_
      induction rb.dictI hpk with | mk d ks xs es b1 b2 b3 b4 => ?_
      refine wpAny_notIn_of (strKey _ _) b2 b1.mapOf ?_
      rw [← hasKey_dictOf _ b3]
      exact hQ _ (keeps_toks s _)
    | str k z =>
      induction ra.strI with | mk t => ?_
      induction rb.strI with | mk t' => ?_
      exact P.notIn_str (hQ _ (keeps_refl s))
end

theorem Ev.bin {l r : Expr} {op : Operator} {pos : Pos} {ml mr : Rho → Option V} (hl : Ev prog w hb n sc l ml) (hr : Ev prog w hb n sc r mr) :
    Ev prog w hb n sc (.BinOp l op r pos) (fun ρ => do let a ← ml ρ; let b ← mr ρ; aBinV op a b) := by
  intro A Hz env s₀ X C ρ O s v Q E hs hA I
  refine bindI fun a ha => bindI fun b hb' hm hQ => ?_
  refine wpAny_BinOp (hl hs hA I ha fun u s₁ k₁ r₁ => hr hs hA (I.grow k₁) hb' fun u' s₂ k₂ r₂ => ?_)
  exact bin_ok hA ((I.grow k₁).grow k₂) hm (r₁.grow (keeps_grow k₂)) r₂ fun u s' k r => hQ u s' (keeps_trans k₁ (keeps_trans k₂ k)) r
theorem Ev.cmp {l r : Expr} {op : CmpOp} {pos : Pos} {ml mr : Rho → Option V} (hl : Ev prog w hb n sc l ml) (hr : Ev prog w hb n sc r mr) (hk : behindInMarks op r = false) :
    Ev prog w hb n sc (.Compare l [op] [r] pos) (fun ρ => do let a ← ml ρ; let b ← mr ρ; let c ← aCmp op a.x b.x; some ⟨.bool c, .d⟩) := by
  intro A Hz env s₀ X C ρ O s v Q E hs hA I
  refine bindI fun a ha => bindI fun b hb' => bindI fun c hc hm hQ => ?_
  (have e := si hm; subst e; clear hm)
  refine wpAny_Compare1 (hl hs hA I ha fun u s₁ k₁ r₁ => hr hs hA (I.grow k₁) hb' fun u' s₂ k₂ r₂ => ?_) hk
  exact cmp_ok hA hc (r₁.grow (keeps_grow k₂)) r₂ fun s' k => hQ _ s' (keeps_trans k₁ (keeps_trans k₂ k)) Rep.bool
theorem Tr.cmp {l r : Expr} {op : CmpOp} {pos : Pos} {ml mr : Rho → Option V} (hl : Ev prog w hb n sc l ml) (hr : Ev prog w hb n sc r mr) (hk : behindInMarks op r = false := by rfl) :
    Tr prog w hb n sc (.Compare l [op] [r] pos) (fun ρ => do let a ← ml ρ; let b ← mr ρ; aCmp op a.x b.x) := by
  intro A Hz env s₀ X C ρ O s v Q E hs hA I
  refine bindI fun a ha => bindI fun b hb' hm hQ => ?_
  refine wpAny_isTrue_Compare1 (hl hs hA I ha fun u s₁ k₁ r₁ => hr hs hA (I.grow k₁) hb' fun u' s₂ k₂ r₂ => ?_) hk
  exact cmp_ok hA hm (r₁.grow (keeps_grow k₂)) r₂ fun s' k => wpAny_truthy_bool (hQ s' (keeps_trans k₁ (keeps_trans k₂ k)))
theorem Tr.val {e : Expr} {m : Rho → Option V} (h : Ev prog w hb n sc e m) (he : ∀ env whole, isTrue e env whole = (do let v ← whole; standAt e.pos; holding [v] (truthy v))) :
    Tr prog w hb n sc e (fun ρ => do let a ← m ρ; aTruth a.x) := by
  intro A Hz env s₀ X C ρ O s v Q E hs hA I
  refine bindI fun a ha hm hQ => ?_
  exact wpAny_isTrue_value (h hs hA I ha fun u s₁ k₁ r₁ => truth_ok hm r₁ fun s' k => hQ s' (keeps_trans k₁ k)) (he _ _)
theorem Tr.not {e : Expr} {pos : Pos} {m : Rho → Option Bool} (h : Tr prog w hb n sc e m) : Tr prog w hb n sc (.UnaryOp .Not e pos) (fun ρ => (m ρ).map (!·)) := by
  intro A Hz env s₀ X C ρ O s v Q E hs hA I hm hQ
  induction mapE hm with | mk b hb' => ?_
  exact wpAny_isTrue_Not (h hs hA I hb' fun s' k => hQ s' k)
noncomputable def Trs (prog : Program) (w : World) (hb : Heap) (n : Nat) (sc : Scope) (op : BoolOp) (es : List Expr) (m : Rho → Option Bool) : Prop :=
  ∀ ⦃A : Around⦄ ⦃Hz : List Addr⦄ ⦃env : Env⦄ ⦃s₀ : Shared⦄ ⦃X C : List Addr⦄ ⦃ρ : Rho⦄ ⦃O : List (String × List Addr)⦄ ⦃s : Shared⦄ ⦃v : Bool⦄ ⦃Q : Bool → Shared → Prop⦄ ⦃E : Value → Shared → Prop⦄,
    env.scope = sc → RoomF A n → InF prog w Hz hb s₀ X env C ρ O s → m ρ = some v → (∀ s', Keeps s s' → Q v s') → wpAny (model prog w) A (allTrue op es env) Q E s
theorem Trs.nilAnd : Trs prog w hb n sc .And [] (fun _ => some true) := by
  intro A Hz env s₀ X C ρ O s v Q E hs hA I hm hQ
  (have e := si hm; subst e; clear hm); exact wpAny_allTrue_And_nil (hQ s (keeps_refl s))
theorem Trs.nilOr : Trs prog w hb n sc .Or [] (fun _ => some false) := by
  intro A Hz env s₀ X C ρ O s v Q E hs hA I hm hQ
  (have e := si hm; subst e; clear hm); exact wpAny_allTrue_Or_nil (hQ s (keeps_refl s))
theorem Trs.consAnd {e : Expr} {es : List Expr} {m ms : Rho → Option Bool} (h : Tr prog w hb n sc e m) (hs' : Trs prog w hb n sc .And es ms) :
    Trs prog w hb n sc .And (e :: es) (fun ρ => do let b ← m ρ; if b then ms ρ else some false) := by
  intro A Hz env s₀ X C ρ O s v Q E hs hA I
  refine bindI fun b hb' hm hQ => ?_
  refine wpAny_allTrue_And_cons (h hs hA I hb' fun s₁ k₁ => ?_)
  cases b with
  | true => exact hs' hs hA (I.grow k₁) hm fun s' k => hQ s' (keeps_trans k₁ k)
  | false => (have e := si hm; subst e; clear hm); exact hQ s₁ k₁
theorem Trs.consOr {e : Expr} {es : List Expr} {m ms : Rho → Option Bool} (h : Tr prog w hb n sc e m) (hs' : Trs prog w hb n sc .Or es ms) :
    Trs prog w hb n sc .Or (e :: es) (fun ρ => do let b ← m ρ; if b then some true else ms ρ) := by
  intro A Hz env s₀ X C ρ O s v Q E hs hA I
  refine bindI fun b hb' hm hQ => ?_
  refine wpAny_allTrue_Or_cons (h hs hA I hb' fun s₁ k₁ => ?_)
  cases b with
  | false => exact hs' hs hA (I.grow k₁) hm fun s' k => hQ s' (keeps_trans k₁ k)
  | true => (have e := si hm; subst e; clear hm); exact hQ s₁ k₁
theorem Tr.all {op : BoolOp} {es : List Expr} {pos : Pos} {m : Rho → Option Bool} (h : Trs prog w hb n sc op es m) : Tr prog w hb n sc (.BoolOp op es pos) m := by
  intro A Hz env s₀ X C ρ O s v Q E hs hA I hm hQ
  exact wpAny_isTrue_BoolOp (h hs hA I hm hQ)
theorem Ev.not {e : Expr} {pos : Pos} {m : Rho → Option V} (h : Ev prog w hb n sc e m) : Ev prog w hb n sc (.UnaryOp .Not e pos) (fun ρ => do let a ← m ρ; let b ← aTruth a.x; some ⟨.bool (!b), .d⟩) := by
  intro A Hz env s₀ X C ρ O s v Q E hs hA I
  refine bindI fun a ha => bindI fun b hb' hm hQ => ?_
  (have e := si hm; subst e; clear hm)
  exact wpAny_UnaryOp (h hs hA I ha fun u s₁ k₁ r₁ => not_value (truth_ok hb' r₁ fun s' k => hQ _ s' (keeps_trans k₁ k) Rep.bool))
theorem Ev.neg {e : Expr} {pos : Pos} {m : Rho → Option V} (h : Ev prog w hb n sc e m) : Ev prog w hb n sc (.UnaryOp .USub e pos) (fun ρ => do let a ← m ρ; match a.x with | .int i => some ⟨.int (-i), .d⟩ | _ => none) := by
  intro A Hz env s₀ X C ρ O s v Q E hs hA I
  refine bindI fun a ha hm hQ => ?_
  refine wpAny_UnaryOp (h hs hA I ha fun u s₁ k₁ r₁ => ?_)
  obtain ⟨ax, af⟩ := a
  obtain ⟨as, ra, _⟩ := r₁
  simp only at hm ra
  split at hm
  · (have e := si hm; subst e; clear hm); cases ra; exact P.neg_int (hQ _ _ (keeps_trans k₁ (keeps_toks s₁ _)) Rep.int)
  · exact no hm
theorem Ev.and2 {x y : Expr} {pos : Pos} {mx my : Rho → Option V} (hx : Ev prog w hb n sc x mx) (hy : Ev prog w hb n sc y my) :
    Ev prog w hb n sc (.BoolOp .And [x, y] pos) (fun ρ => do let a ← mx ρ; let b ← aTruth a.x; if b then my ρ else some a) := by
  intro A Hz env s₀ X C ρ O s v Q E hs hA I
  refine bindI fun a ha => bindI fun b hb' hm hQ => ?_
  refine wpAny_And2 (hx hs hA I ha fun u s₁ k₁ r₁ => truth_ok hb' r₁ fun s₂ k₂ => ?_)
  cases b with
  | true => exact hy hs hA ((I.grow k₁).grow k₂) hm fun u s' k r => hQ u s' (keeps_trans k₁ (keeps_trans k₂ k)) r
  | false => (have e := si hm; subst e; clear hm); exact hQ u s₂ (keeps_trans k₁ k₂) (r₁.grow (keeps_grow k₂))
theorem Evs.nil : Evs prog w hb n sc [] (fun _ => some []) := by
  intro A Hz env s₀ X C ρ O s vs pos Q E hs hA I hm hQ
  (have e := si hm; subst e; clear hm); exact wpAny_items_nil (hQ [] s (keeps_refl s) .nil)
theorem Evs.cons {e : Expr} {es : List Expr} {m : Rho → Option V} {ms : Rho → Option (List V)} (h : Ev prog w hb n sc e m) (hs' : Evs prog w hb n sc es ms)
    (he : ∀ env, starEach (e :: es) env = (false, eval e env) :: starEach es env := by intro _; rfl) :
    Evs prog w hb n sc (e :: es) (fun ρ => do let a ← m ρ; let as ← ms ρ; some (a :: as)) := by
  intro A Hz env s₀ X C ρ O s vs pos Q E hs hA I
  refine bindI fun a ha => bindI fun as has hm hQ => ?_
  (have e := si hm; subst e; clear hm)
  refine wpAny_items_cons (h hs hA I ha fun u s₁ k₁ r₁ => hs' hs hA (I.grow k₁) has fun us s₂ k₂ r₂ => ?_) (he _)
  exact hQ _ _ (keeps_trans k₁ k₂) (.cons (r₁.grow (keeps_grow k₂)) r₂)
noncomputable def flsOf (vs : List V) : Fl := vs.foldr (fun v f => v.fl.join f) .d
theorem Reps.one_inv {s₀ h : Heap} {W : List Addr} {us : List Value} {v : V} (r : Reps prog w Hz s₀ W h us [v]) : ∃ u, us = [u] ∧ Rep prog w Hz s₀ W h u v := by
  cases r with
  | cons a b => cases b; exact ⟨_, rfl, a⟩
theorem Reps.rds {s₀ h : Heap} {W : List Addr} {us : List Value} {vs : List V} (r : Reps prog w Hz s₀ W h us vs) : ∃ as, RDs prog w Hz h us (vs.map (·.x)) as ∧ wfs (vs.map (·.x)) = true ∧ FlOk s₀ W (flsOf vs) as := by
  induction r with
  | nil => exact ⟨[], .nil, rfl, FlOk.nil⟩
  | cons a _ ih =>
    obtain ⟨as, r, c, o⟩ := ih
    obtain ⟨bs, r', c', o'⟩ := a
    refine ⟨bs ++ as, .cons r' r, by simp [wfs, c, c'], ?_⟩
    simp only [flsOf, List.foldr_cons]
    exact FlOk.append o'.join_l o.join_r
theorem Reps.length {s₀ h : Heap} {W : List Addr} {us : List Value} {vs : List V} (r : Reps prog w Hz s₀ W h us vs) : us.length = vs.length := by
  induction r with
  | nil => rfl
  | cons _ _ ih => simp [ih]
theorem Ev.list {es : List Expr} {pos : Pos} {ms : Rho → Option (List V)} (h : Evs prog w hb n sc es ms) :
    Ev prog w hb n sc (.List es pos) (fun ρ => do let vs ← ms ρ; if vs.length ≤ sizeLine then some (V.newL (vs.map (·.x)) (flsOf vs)) else none) := by
  intro A Hz env s₀ X C ρ O s v Q E hs hA I
  refine bindI fun vs hvs => ifI fun hz hm hQ => ?_
  · (have e := si hm; subst e; clear hm)
    refine wpAny_List (h hs hA I hvs fun us s₁ k₁ r₁ => ⟨by rw [r₁.length]; exact hz, ?_⟩)
    obtain ⟨as, r, c, o⟩ := r₁.rds
    exact hQ _ _ (keeps_trans k₁ (keeps_push _ _)) ((I.grow k₁).newL r (wf_list.mpr ⟨by simpa using hz, c⟩) o)
theorem Ev.tuple {es : List Expr} {k : Nat} {pos : Pos} {ms : Rho → Option (List V)} (h : Evs prog w hb n sc es ms) :
    Ev prog w hb n sc (.Tuple es k pos) (fun ρ => do let vs ← ms ρ; if vs.length ≤ sizeLine then some (V.fix (.tuple (vs.map (·.x))) (flsOf vs)) else none) := by
  intro A Hz env s₀ X C ρ O s v Q E hs hA I
  refine bindI fun vs hvs => ifI fun hz hm hQ => ?_
  · (have e := si hm; subst e; clear hm)
    refine wpAny_Tuple (h hs hA I hvs fun us s₁ k₁ r₁ => ⟨by rw [r₁.length]; exact hz, ?_⟩)
    obtain ⟨as, r, c, o⟩ := r₁.rds
    exact hQ _ _ (keeps_trans k₁ (keeps_push _ _)) ((I.grow k₁).newT r (wf_tuple.mpr ⟨by simpa using hz, c⟩) o)

noncomputable def seqAt {α : Type} (xs : List α) (k : Int) : Option α := if 0 ≤ k then xs[k.toNat]? else if -(xs.length : Int) ≤ k then xs[(k + xs.length).toNat]? else none
noncomputable def atKey (k : Str) : List (PyData × PyData) → Option PyData
  | [] => none
  | (.str x, v) :: r => if x = k then some v else atKey k r
  | _ :: r => atKey k r
theorem RD.plain_at {h : Heap} {v : Value} {as : List Addr} {ps : List (PyData × PyData)} {k : Str} {x : PyData} (r : RD prog w Hz h v (.dict ps) as) (e : atKey k ps = some x) : plainK ps = true := by
  generalize hd : PyData.dict ps = D at r
  cases r with
  | dict b1 b2 b3 b4 => obtain rfl := PyData.dict.inj hd; exact plainK_map _ _ _
  | val i => cases hd; exact no e
  | store i r => cases hd; exact no e
  | inst i q e' n r => cases hd; exact no e
  | _ => cases hd
noncomputable def intOf : PyData → Option Int
  | .int k => some k
  | _ => none
theorem intOf_some {x : PyData} {k : Int} (h : intOf x = some k) : x = .int k := by
  cases x with
  | int i => (have e := si h; subst e; clear h); rfl
  | _ => exact no h
noncomputable def aIdx (x y : PyData) : Option PyData := match x with
  | .list xs => (intOf y).bind fun k => seqAt xs k
  | .tuple xs => (intOf y).bind fun k => seqAt xs k
  | .str x => (intOf y).bind fun k => (seqAt x.cps.toList k).map fun c => .str ⟨#[c]⟩
  | .dict kvs => (keyOf y).bind fun k => atKey k kvs
  | _ => none
theorem seqAt_lt {α : Type} {xs : List α} {k : Int} {x : α} (h : seqAt xs k = some x) : -(xs.length : Int) ≤ k ∧ k < xs.length ∧ ∃ i, seqIndex? k xs.length = some i ∧ xs[i]? = some x := by
  unfold seqAt at h
  unfold seqIndex?
  split at h
  · rename_i hk
    have := (List.getElem?_eq_some_iff.mp h).1
    refine ⟨by lia, by lia, k.toNat, ?_, h⟩
    simp only [show ¬ k < 0 by lia, if_false]
    simp only [show (0 ≤ k ∧ k < (xs.length : Int)) by lia]
    simp
  · split at h
    · rename_i hk hk'
      have := (List.getElem?_eq_some_iff.mp h).1
      refine ⟨by lia, by lia, (k + xs.length).toNat, ?_, h⟩
      simp only [show k < 0 by lia, if_true]
      simp only [show (0 ≤ k + (xs.length : Int) ∧ k + (xs.length : Int) < (xs.length : Int)) by lia]
      simp
    · exact no h
theorem wfs_get {xs : List PyData} {i : Nat} {x : PyData} (h : wfs xs = true) (e : xs[i]? = some x) : wf x = true := (wfs_iff xs).mp h x (List.mem_of_getElem? e)
theorem valueAt_hit {ks : List (Str × Value)} {p : Str × Value} {k : Str} (h : p.1 = k) : valueAt (p :: ks) k = some p.2 := by
  unfold valueAt
  rw [List.find?_cons, show decide (p.1 = k) = true from decide_eq_true h]; rfl
theorem valueAt_miss {ks : List (Str × Value)} {p : Str × Value} {k : Str} (h : ¬ p.1 = k) : valueAt (p :: ks) k = valueAt ks k := by
  unfold valueAt
  rw [List.find?_cons, show decide (p.1 = k) = false from decide_eq_false h]
theorem key_get {h : Heap} {k : Str} {ks : List (Str × Value)} : ∀ {ys : List (Str × PyData)} {cs : List Addr}, ks.map (·.1) = ys.map (·.1) → RDs prog w Hz h (ks.map (·.2)) (ys.map (·.2)) cs →
    (∀ x, atKey k (ys.map fun p => (.str p.1, p.2)) = some x → ∃ v ds, valueAt ks k = some v ∧ RD prog w Hz h v x ds ∧ (∀ d ∈ ds, d ∈ cs) ∧ ∃ q ∈ ys, q.2 = x) ∧
    (atKey k (ys.map fun p => (.str p.1, p.2)) = none → valueAt ks k = none) := by
  induction ks with
  | nil =>
    intro ys cs e _
    induction ys with
    | nil => exact ⟨fun x h => (nomatch h), fun _ => rfl⟩
    | cons q ys => cases e
  | cons p ks ih =>
    intro ys cs e r
    cases ys with
    | nil => cases e
    | cons q ys =>
      obtain ⟨e0, e1⟩ := List.cons.inj e
      obtain ⟨as, bs, rfl, r1, r2⟩ := r.cons_inv
      obtain ⟨i1, i2⟩ := ih e1 r2
      show (∀ x, (if q.1 = k then some q.2 else atKey k (ys.map fun p => (.str p.1, p.2))) = some x → _) ∧ ((if q.1 = k then some q.2 else atKey k (ys.map fun p => (.str p.1, p.2))) = none → _)
      by_cases hk : q.1 = k
      · rw [if_pos hk]
        refine ⟨fun x h => ?_, fun h => (nomatch h)⟩
        (have e := si h; subst e; clear h)
        exact ⟨p.2, as, valueAt_hit (e0.trans hk), r1, fun d hd => List.mem_append_left _ hd, q, .head _, rfl⟩
      · rw [if_neg hk, valueAt_miss fun e => hk (e0.symm.trans e)]
        refine ⟨fun x h => ?_, i2⟩
        obtain ⟨v, ds, a, b, c, q', hq, d⟩ := i1 x h
        exact ⟨v, ds, a, b, fun y hy => List.mem_append_right _ (c y hy), q', .tail _ hq, d⟩
theorem wfk_at : ∀ {ys : List (Str × PyData)} {q : Str × PyData}, wfk (ys.map fun p => (.str p.1, p.2)) = true → q ∈ ys → wf q.2 = true
  | [], q, _, h => nomatch h
  | y :: ys, q, h, hq => by
    simp only [List.map_cons, wfk, Bool.and_eq_true] at h
    rcases List.mem_cons.mp hq with rfl | hq
    · exact h.1.2
    · exact wfk_at h.2 hq
section
variable {A : Around} {env : Env} {s₀ : Heap} {W : List Addr} {s : Shared} {E : Value → Shared → Prop}
theorem getItem_ok {a b : V} {x : PyData} {u₁ u₂ : Value} {Q : Value → Shared → Prop} (h : aIdx a.x b.x = some x) (r₁ : Rep prog w Hz s₀ W s.heap u₁ a) (r₂ : Rep prog w Hz s₀ W s.heap u₂ b)
    (hQ : ∀ u s', Keeps s s' → Rep prog w Hz s₀ W s'.heap u (V.fix x a.fl) → Q u s') : wpAny (model prog w) A (getItem u₁ u₂) Q E s ∧ ∃ T id, s.TypeIs u₁ T ∧ typeLookup (.type T) "__getitem__" = pure (some (.builtin id)) := by
  obtain ⟨ax, af⟩ := a
  obtain ⟨bx, bf⟩ := b
  obtain ⟨as, ra, ca, oa⟩ := r₁
  obtain ⟨bs, rb, cb, ob⟩ := r₂
  have hz := sizeLine_small
  dsimp only at h ra rb ca cb oa ob hQ
  clear cb ob
  cases ax with
  | list xs =>
    obtain ⟨k, hk, h⟩ := bindE h
    obtain rfl := intOf_some hk
    induction rb.intI with | mk t => ?_
    induction ra.listI with | mk d us m ds a1 a2 => ?_
    clear rb ra hk
    rw [wf_list] at ca
    have hl := a2.length
    obtain ⟨l1, l2, i, hi, hx⟩ := seqAt_lt h
    obtain ⟨v, cs, e1, e2, e3⟩ := a2.get hx
    refine ⟨?_, "list", _, ⟨_, a1, rfl⟩, list_getitem_lookup⟩
    have fin : Q v s := hQ v s (keeps_refl s) (Rep.fixed e2 (wfs_get ca.2 hx) (oa.mono fun b hb => .tail _ (e3 b hb)))
    clear hQ e2 e3 oa h hx
    by_cases hk : 0 ≤ k
    · refine wpAny_getItem_list ⟨_, a1, rfl, _, rfl⟩ hk (by lia) ?_ fin
      simp only [seqIndex?, show ¬ (k < 0) from by lia, if_false] at hi
      split at hi
      · (have e := si hi; subst e; clear hi); simpa using e1
      · exact no hi
    · refine wpAny_getItem_list_neg ⟨_, a1, rfl, _, rfl⟩ (by lia) (by simp; lia) (by lia) ?_ fin
      simp only [seqIndex?, show (k < 0) from by lia, if_true] at hi
      split at hi
      · (have e := si hi; subst e; clear hi); simpa [hl] using e1
      · exact no hi
  | tuple xs =>
    obtain ⟨k, hk, h⟩ := bindE h
    obtain rfl := intOf_some hk
    induction rb.intI with | mk t => ?_
    induction ra.tupI with | mk d us m a1 a2 => ?_
    clear rb ra hk
    rw [wf_tuple] at ca
    have hl := a2.length
    obtain ⟨l1, l2, i, hi, hx⟩ := seqAt_lt h
    obtain ⟨v, cs, e1, e2, e3⟩ := a2.get hx
    refine ⟨?_, "tuple", _, ⟨_, a1, rfl⟩, F.slot_tuple_getitem.lookup⟩
    refine P.getItem_tuple a1 (by lia) (by lia) (k := i) (by simpa [hl] using hi) (by simpa using e1) ?_
    exact hQ v s (keeps_refl s) (Rep.fixed e2 (wfs_get ca.2 hx) (oa.mono e3))
  | str x =>
    obtain ⟨k, hk, h⟩ := bindE h
    obtain rfl := intOf_some hk
    induction mapE h with | mk c hc => ?_
    induction rb.intI with | mk t => ?_
    induction ra.strI with | mk t' => ?_
    clear rb ra hk
    rw [wf_str] at ca
    obtain ⟨l1, l2, i, hi, hx⟩ := seqAt_lt hc
    have hlen : x.cps.toList.length = x.length := by simp [Str.length]
    rw [hlen] at l1 l2 hi
    refine ⟨?_, "str", _, typeIs_str s _ _, F.slot_str_getitem.lookup⟩
    have := ca.2
    refine P.getItem_str (c := c) ?_ (by rw [hi]; simpa using hx) (hQ _ _ (keeps_toks s _) (Rep.fixed (.str _ _) (wf_str.mpr ⟨?_, by show 1 ≤ sizeLine; decide⟩) FlOk.nil))
    · have h1 : ¬ k < -(2 ^ 63 : Int) := by lia
      have h2 : ¬ k ≥ 2 ^ 63 := by lia
      rw [decide_eq_false h1, decide_eq_false h2]; rfl
    · have := ca.1
      unfold PyData.strOk at this ⊢
      have hc' : c ∈ x.cps := by
        have := List.mem_of_getElem? hx
        simpa using this
      have := Array.all_eq_true'.mp this c hc'
      simpa using this
  | dict kvs =>
    obtain ⟨k, hk, h⟩ := bindE h
    obtain rfl := keyOf_some hk
    induction rb.strI with | mk t => ?_
    induction ra.dictI (ra.plain_at h) with | mk d ks ys es b1 b2 b3 b4 => ?_
    clear rb ra hk
    obtain ⟨v, ds, g1, g2, g3, q, g4, rfl⟩ := (key_get b3 b4).1 x h
    have hwf : wf q.2 = true := by
      simp only [wf, Bool.and_eq_true] at ca
      exact wfk_at ca.2 g4
    refine ⟨?_, "dict", _, b1.typeIs, slot_dict_getitem.lookup⟩
    exact wpAny_getItem_of (strKey _ _) b1.mapOf g1 (hQ _ _ (keeps_toks s _) (Rep.fixed g2 hwf (oa.mono fun d hd => .tail _ (g3 d hd))))
  | _ => exact no h
end
theorem Ev.idx {e i : Expr} {pos : Pos} {m mi : Rho → Option V} (h : Ev prog w hb n sc e m) (hi : Ev prog w hb n sc i mi) (hs' : ∀ o j, ∃ ops, subscripted i false o j = operate ops (getItem o j) := by intro _ _; exact ⟨_, rfl⟩) :
    Ev prog w hb n sc (.Subscript e i pos) (fun ρ => do let a ← m ρ; let b ← mi ρ; let x ← aIdx a.x b.x; some (V.fix x a.fl)) := by
  intro A Hz env s₀ X C ρ O s v Q E hs hA I
  refine bindI fun a ha => bindI fun b hb' => bindI fun x hx hm hQ => ?_
  (have e := si hm; subst e; clear hm)
  refine PyProof.Rows.Subscript_ (h hs hA I ha fun u s₁ k₁ r₁ => hi hs hA (I.grow k₁) hb' fun u' s₂ k₂ r₂ => ?_)
  obtain ⟨g, T, id, hT, hl⟩ := getItem_ok (A := A) (E := E) (Q := Q) hx (r₁.grow (keeps_grow k₂)) r₂ fun u s' k r => hQ u s' (keeps_trans k₁ (keeps_trans k₂ k)) r
  obtain ⟨ops, e⟩ := hs' u u'
  exact PyProof.Rows.tail_any hT hl g e

noncomputable def Pt (prog : Program) (w : World) (hb : Heap) (n : Nat) (sc : Scope) (e : Option Expr) (m : Rho → Option (Option Int)) : Prop :=
  ∀ ⦃A : Around⦄ ⦃Hz : List Addr⦄ ⦃env : Env⦄ ⦃s₀ : Shared⦄ ⦃X C : List Addr⦄ ⦃ρ : Rho⦄ ⦃O : List (String × List Addr)⦄ ⦃s : Shared⦄ ⦃v : Option Int⦄ ⦃Q : Value → Shared → Prop⦄ ⦃E : Value → Shared → Prop⦄,
    env.scope = sc → RoomF A n → InF prog w Hz hb s₀ X env C ρ O s → m ρ = some v → (∀ p s', Keeps s s' → p.map (·.1) = v → Q (partValue p) s') → wpAny (model prog w) A (evalPart e env) Q E s
theorem Pt.no : Pt prog w hb n sc none (fun _ => some none) := by
  intro A Hz env s₀ X C ρ O s v Q E hs hA I hm hQ
  (have e := si hm; subst e; clear hm)
  rw [evalPart_none]
  exact wpAny_pure (hQ none s (keeps_refl s) rfl)
theorem Pt.yes {e : Expr} {m : Rho → Option V} (h : Ev prog w hb n sc e m) : Pt prog w hb n sc (some e) (fun ρ => do let a ← m ρ; match a.x with | .int i => some (some i) | _ => none) := by
  intro A Hz env s₀ X C ρ O s v Q E hs hA I
  refine bindI fun z0 ha hm hQ => ?_
  obtain ⟨ax, af⟩ := z0
  rw [evalPart_some]
  refine h hs hA I ha fun u s' k r => ?_
  obtain ⟨as, ra, _⟩ := r
  simp only at hm ra
  split at hm
  · (have e := si hm; subst e; clear hm); cases ra; exact hQ (some (_, _)) s' k rfl
  · cases hm
noncomputable def sliceIdx (lo hi st : Option Int) (k : Nat) : List Nat := sliceRange (sliceBounds lo hi st k).1 (sliceBounds lo hi st k).2.1 (sliceBounds lo hi st k).2.2
noncomputable def aSlice (lo hi st : Option Int) : PyData → Option PyData
  | .list xs => if st = some 0 then none else some (.list ((sliceIdx lo hi st xs.length).filterMap (xs[·]?)))
  | .str x => if st.getD 1 = 0 then none else some (.str (if st.getD 1 = 1 ∧ (Builtin.Str.strSliceIndices lo hi (st.getD 1) x.length).length = x.length then x else ⟨((Builtin.Str.strSliceIndices lo hi (st.getD 1) x.length).filterMap (x.cps[·]?)).toArray⟩))
  | _ => none
noncomputable def aSliceV (lo hi st : Option Int) (a : V) : Option V := (aSlice lo hi st a.x).map fun x => match x with
  | .list xs => V.newL xs a.fl
  | x => ⟨x, .d⟩
theorem IsPart.of {p : Option (Int × Tok)} {v : Option Int} (h : p.map (·.1) = v) : IsPart (partValue p) v := by
  subst h
  induction p with
  | none => exact .none
  | some p => exact .int _ _
theorem strOk_pick {x : Str} (h : PyData.strOk x = true) (is : List Nat) : PyData.strOk ⟨(is.filterMap (x.cps[·]?)).toArray⟩ = true := by
  unfold PyData.strOk at *
  rw [List.all_toArray, List.all_eq_true]
  intro c hc
  obtain ⟨i, _, hi⟩ := List.mem_filterMap.mp hc
  exact Array.all_eq_true'.mp h c (Array.mem_of_getElem? hi)
theorem wfs_pick {xs : List PyData} (h : wfs xs = true) (is : List Nat) : wfs (is.filterMap (xs[·]?)) = true := by
  rw [wfs_iff] at *
  intro x hx
  obtain ⟨i, _, hi⟩ := List.mem_filterMap.mp hx
  exact h x (List.mem_of_getElem? hi)
theorem pick_len {α : Type} (xs : List Value) (ys : List α) (h : xs.length = ys.length) (lo hi st : Option Int) : ((sliceIdx lo hi st ys.length).filterMap (ys[·]?)).length ≤ ys.length := by
  have e : ((sliceIdx lo hi st ys.length).filterMap (ys[·]?)).length = ((sliceIdx lo hi st ys.length).filterMap (xs[·]?)).length := by
    generalize sliceIdx lo hi st ys.length = l
    induction l with
    | nil => rfl
    | cons i l ih =>
      by_cases hi : i < ys.length
      · simp [List.getElem?_eq_getElem hi, List.getElem?_eq_getElem (show i < xs.length by lia), ih]
      · simp [List.getElem?_eq_none (show ys.length ≤ i by lia), List.getElem?_eq_none (show xs.length ≤ i by lia), ih]
  have := slicePick_size_le xs.toArray lo hi st
  simp only [slicePick, List.size_toArray, List.getElem?_toArray] at this
  rw [e, ← h]
  exact this
section
variable {A : Around} {env : Env} {s₀ : Shared} {X C : List Addr} {ρ : Rho} {O : List (String × List Addr)} {s : Shared} {E : Value → Shared → Prop}
theorem slice_ok {a v : V} {u : Value} {l h st : Option Int} {pl ph pst : Option (Int × Tok)} {sl : Addr} {Q : Value → Shared → Prop} (I : InF prog w Hz hb s₀ X env C ρ O s) (e : aSliceV l h st a = some v) (r : Rep prog w Hz s₀.heap (WW env C O) s.heap u a)
    (el : pl.map (·.1) = l) (eh : ph.map (·.1) = h) (est : pst.map (·.1) = st) (hsl : s.heap.get? sl = some { cls := .type "slice", data := .fields #[partValue pl, partValue ph, partValue pst] })
    (hQ : ∀ u s', Keeps s s' → Rep prog w Hz s₀.heap (WW env C O) s'.heap u v → Q u s') : wpAny (model prog w) A (getItem u (.ref sl)) Q E s ∧ ∃ T id, s.TypeIs u T ∧ typeLookup (.type T) "__getitem__" = pure (some (.builtin id)) := by
  obtain ⟨x, hx, hv⟩ := Option.map_eq_some_iff.mp e
  obtain ⟨ax, af⟩ := a
  obtain ⟨as, ra, ca, oa⟩ := r
  simp only at *
  unfold aSlice at hx
  split at hx
  · rename_i xs
    split at hx
    · exact no hx
    · rename_i h0
      (have e := si hx; subst e; clear hx); cases hv
      obtain ⟨ad, vs, k, bs, q1, q2, a1, a2⟩ := ra.list_inv
      cases q1; cases q2
      rw [wf_list] at ca
      have hl := a2.length
      refine ⟨?_, "list", _, ⟨_, a1, rfl⟩, list_getitem_lookup⟩
      refine wpAny_getItem_list_slice ⟨_, a1, rfl, _, rfl⟩ ⟨_, hsl, rfl, rfl⟩ (IsPart.of el) (IsPart.of eh) (IsPart.of est) h0 ?_ (by simp [hl]; exact ca.1)
      have e2 : slicePick vs.toArray l h st = ((sliceIdx l h st xs.length).filterMap (vs[·]?)).toArray := by
        simp only [slicePick, sliceIdx, List.size_toArray, List.getElem?_toArray, hl]
      rw [e2]
      obtain ⟨cs, q, hq⟩ := a2.part (sliceIdx l h st xs.length)
      have := pick_len vs xs hl l h st
      refine hQ _ _ (keeps_push s _) (I.newL q (wf_list.mpr ⟨by have := ca.1; lia, wfs_pick ca.2 _⟩) (oa.mono fun b hb => .tail _ (hq b hb)))
  · rename_i x
    split at hx
    · exact no hx
    · rename_i h0
      (have e := si hx; subst e; clear hx); cases hv; cases ra
      rw [wf_str] at ca
      refine ⟨?_, "str", _, typeIs_str s _ _, F.slot_str_getitem.lookup⟩
      have hst : (pst.map (·.1)).getD 1 = st.getD 1 := by rw [est]
      refine wpAny_getItem_str_slice (l := pl) (u := ph) (st := pst) ⟨_, hsl, rfl, rfl⟩ (by rw [hst]; simpa using h0) ?_
      unfold sliceMade slicePicked
      rw [hst, el, eh]
      by_cases hc : st.getD 1 = 1 ∧ (Builtin.Str.strSliceIndices l h (st.getD 1) x.length).length = x.length
      · have hc' : (st.getD 1 == 1 && (Builtin.Str.strSliceIndices l h (st.getD 1) x.length).length == x.length) = true := by simpa using hc
        rw [if_pos hc']
        rw [if_pos hc] at hQ
        exact hQ _ _ (keeps_refl s) (Rep.str (wf_str.mpr ca))
      · have hc' : ¬ (st.getD 1 == 1 && (Builtin.Str.strSliceIndices l h (st.getD 1) x.length).length == x.length) = true := by simpa using hc
        rw [if_neg hc']
        rw [if_neg hc] at hQ
        have hlen : (⟨((Builtin.Str.strSliceIndices l h (st.getD 1) x.length).filterMap (x.cps[·]?)).toArray⟩ : Str).length ≤ sizeLine := by
          have q := pick_len (List.replicate x.cps.toList.length Value.none) x.cps.toList (by simp) l h st
          have e1 : x.cps.toList.length = x.length := by simp [Str.length]
          rw [e1] at q
          have e2 : Builtin.Str.strSliceIndices l h (st.getD 1) x.length = sliceIdx l h st x.length := rfl
          rw [e2]
          show (List.toArray _).size ≤ sizeLine
          rw [List.size_toArray]
          have e3 : (sliceIdx l h st x.length).filterMap (x.cps.toList[·]?) = (sliceIdx l h st x.length).filterMap (x.cps[·]?) := by simp
          rw [← e3]
          have := ca.2
          lia
        exact ⟨hlen, hQ _ _ (keeps_toks s _) (Rep.str (wf_str.mpr ⟨strOk_pick ca.1 _, hlen⟩))⟩
  · exact no hx
end
theorem Ev.slice {e : Expr} {lo hi st : Option Expr} {p pos : Pos} {m : Rho → Option V} {ml mh ms : Rho → Option (Option Int)} (h : Ev prog w hb n sc e m) (hl : Pt prog w hb n sc lo ml) (hh : Pt prog w hb n sc hi mh) (hst : Pt prog w hb n sc st ms)
    (hs' : ∀ o j, ∃ ops, subscripted (.Slice lo hi st p) false o j = operate ops (getItem o j)) :
    Ev prog w hb n sc (.Subscript e (.Slice lo hi st p) pos) (fun ρ => do let a ← m ρ; let l ← ml ρ; let u ← mh ρ; let t ← ms ρ; aSliceV l u t a) := by
  intro A Hz env s₀ X C ρ O s v Q E hs hA I
  refine bindI fun a ha => bindI fun l hl' => bindI fun u hu' => bindI fun t ht' hm hQ => ?_
  refine PyProof.Rows.Subscript_ (h hs hA I ha fun v₁ s₁ k₁ r₁ => wpAny_Slice (hl hs hA (I.grow k₁) hl' fun p₂ s₂ k₂ e₂ => hh hs hA ((I.grow k₁).grow k₂) hu' fun p₃ s₃ k₃ e₃ => hst hs hA (((I.grow k₁).grow k₂).grow k₃) ht' fun p₄ s₄ k₄ e₄ => ?_))
  have kk := keeps_trans k₁ (keeps_trans k₂ (keeps_trans k₃ (keeps_trans k₄ (keeps_push s₄ { cls := .type "slice", data := .fields #[partValue p₂, partValue p₃, partValue p₄] }))))
  have kk' := keeps_trans k₂ (keeps_trans k₃ (keeps_trans k₄ (keeps_push s₄ { cls := .type "slice", data := .fields #[partValue p₂, partValue p₃, partValue p₄] })))
  obtain ⟨g, T, id, hT, hlk⟩ := slice_ok (A := A) (E := E) (Q := Q) (I.grow kk) hm (r₁.grow (keeps_grow kk')) e₂ e₃ e₄ (Heap.get?_push_size _ rfl) fun u s' k r => hQ u s' (keeps_trans kk k) r
  obtain ⟨ops, e⟩ := hs' v₁ (.ref s₄.heap.objs.size)
  exact PyProof.Rows.tail_any hT hlk g e

theorem map_toNat_inj : ∀ {l l' : List Char}, l.map Char.toNat = l'.map Char.toNat → l = l'
  | [], [], _ => rfl
  | [], _ :: _, h => by simp at h
  | _ :: _, [], h => by simp at h
  | a :: l, b :: l', h => by
    simp only [List.map_cons, List.cons.injEq] at h
    rw [map_toNat_inj h.2]
    congr 1
    exact Char.ext (UInt32.toNat_inj.mp h.1)
theorem ofString_inj {x y : String} (h : Str.ofString x = Str.ofString y) : x = y := by
  rw [Str.ofString_eq_toList, Str.ofString_eq_toList] at h
  simp only [Str.mk.injEq] at h
  have := map_toNat_inj (by simpa using congrArg Array.toList h)
  exact String.toList_inj.mp this

section
variable {s₀ s : Shared} {X : List Addr} {env : Env} {C : List Addr} {ρ : Rho} {O : List (String × List Addr)}
structure Wrote (Z W : List Addr) (h h' : Heap) : Prop where
  sub : ∀ a ∈ Z, a ∈ W
  same : ∀ b o, h.get? b = some o → b ∉ Z → h'.get? b = some o
  here : ∀ a ∈ Z, ∃ o, h'.get? a = some o ∧ ¬ Tup o
theorem Wrote.off {Z W : List Addr} {h h' : Heap} (k : Wrote Z W h h') (ht : ∀ a ∈ W, ∃ o, h.get? a = some o ∧ ¬ Tup o) : Off W h h' := by
  intro b o e hc
  refine k.same b o e fun hz => ?_
  rcases hc with hc | hc
  · exact hc (k.sub b hz)
  · obtain ⟨o', e', q⟩ := ht b (k.sub b hz)
    rw [e] at e'; (have e := si e'; subst e; clear e'); exact q hc
theorem Rep.off {s₀ h h' : Heap} {W : List Addr} {u : Value} {v : V} (k : Off W h h') (r : Rep prog w Hz s₀ W h u v) (hf : v.fl = .d ∨ v.fl = .s) : Rep prog w Hz s₀ W h' u v := by
  obtain ⟨as, r, c, o⟩ := r
  refine ⟨as, r.off k ?_, c, o⟩
  rcases hf with hf | hf <;> rw [hf] at o
  · exact fun a ha => (o a ha).2
  · exact o
theorem RepO.off {s₀ h h' : Heap} {Z W : List Addr} {u : Value} {o : Own} {sp : List Addr} (k : Off W h h') (k' : ∀ b ob, h.get? b = some ob → b ∉ Z → h'.get? b = some ob) (r : RepO prog w Hz s₀ W h u o sp) (hz : ∀ a ∈ sp, a ∉ Z) : RepO prog w Hz s₀ W h' u o sp := by
  induction r with
  | lst a b c d => exact .lst (k' _ _ a (hz _ (.head _))) (b.off k fun x hx => (d x hx).2) c d
  | dct a g e b c d =>
    obtain ⟨o, es, ep, ho, r⟩ := a
    exact .dct ⟨o, es, ep, k' _ _ ho (hz _ (.head _)), r⟩ g e (b.off k fun x hx => (d x hx).2) c d
  | tree a b c e f => exact .tree (a.off (W := Z) (fun b o e q => q.elim (k' b o e) fun t => k b o e (.inr t)) hz) b c e f
theorem lookup_mem {α β : Type} [BEq α] [LawfulBEq α] {l : List (α × β)} {x : α} {y : β} (h : l.lookup x = some y) : (x, y) ∈ l := by
  induction l with
  | nil => simp at h
  | cons p l ih =>
    obtain ⟨a, b⟩ := p
    rw [List.lookup_cons] at h
    split at h
    · rename_i e
      (have e := si h; subst e; clear h)
      rw [eq_of_beq e]; exact .head _
    · exact .tail _ (ih h)
theorem own_sub {x : String} {sp : List Addr} (h : O.lookup x = some sp) {a : Addr} (ha : a ∈ sp) : a ∈ WW env C O := by
  refine List.mem_cons_of_mem _ (List.mem_append_right _ (List.mem_flatMap.mpr ⟨(x, sp), lookup_mem h, ha⟩))
theorem InF.wrote (I : InF prog w Hz hb s₀ X env C ρ O s) {Z : List Addr} {h' : Heap} (k : Wrote Z (WW env C O) s.heap h') :
    Base prog Hz hb h' ∧ (∀ b o, s₀.heap.get? b = some o → b ∉ X → h'.get? b = some o) ∧ (∀ b o, s₀.heap.get? b = some o → ∃ o', h'.get? b = some o') ∧ (∀ a ∈ WW env C O, ∃ o, h'.get? a = some o ∧ ¬ Tup o) ∧ Off (WW env C O) s.heap h' := by
  refine ⟨⟨fun z hz => ?_, I.base.lim, I.base.seer, I.base.tree, I.base.mods, fun b o e => k.same b o (I.base.grow b o e) fun hz => ?_⟩, fun b o e hx => k.same b o (I.keep b o e hx) fun hz => ?_, fun b o e => ?_, fun a ha => ?_, k.off I.walive⟩
  · obtain ⟨q, o, e, t⟩ := I.base.hide z hz
    refine ⟨q, o, k.same z o e (fun hz' => ?_), t⟩
    obtain ⟨o', e', nt⟩ := I.walive z (k.sub z hz')
    rw [e] at e'; (have e := si e'; subst e; clear e'); exact nt t
  · rw [(I.wfresh b (k.sub b hz)).1] at e; exact no e
  · rw [(I.wfresh b (k.sub b hz)).2 hx] at e; exact no e
  · by_cases hz : b ∈ Z
    · obtain ⟨o', e', _⟩ := k.here b hz; exact ⟨o', e'⟩
    · obtain ⟨o', e'⟩ := I.alive b o e; exact ⟨o', k.same b o' e' hz⟩
  · by_cases hz : a ∈ Z
    · exact k.here a hz
    · obtain ⟨o, e, c⟩ := I.walive a ha; exact ⟨o, k.same a o e hz, c⟩
theorem RepVV.wrote {s₀ h h' : Heap} {Z W : List Addr} {O : List (String × List Addr)} {x : String} {u : Value} {vv : VV} (k : Off W h h') (k' : ∀ b ob, h.get? b = some ob → b ∉ Z → h'.get? b = some ob) (r : RepVV prog w Hz s₀ W O h x u vv) (hz : ∀ sp, O.lookup x = some sp → ∀ a ∈ sp, a ∉ Z) : RepVV prog w Hz s₀ W O h' x u vv := by
  induction vv with
  | val v => exact ⟨r.1, r.2.off k r.1⟩
  | own o => obtain ⟨sp, e, r⟩ := r; exact ⟨sp, e, r.off k k' (hz sp e)⟩

theorem own_off (hn : (WW env C O).Nodup) {x : String} {sp : List Addr} (h : O.lookup x = some sp) {a : Addr} (ha : a ∈ sp) : a ≠ env.locals ∧ a ∉ C := by
  have hm : a ∈ O.flatMap (·.2) := List.mem_flatMap.mpr ⟨(x, sp), lookup_mem h, ha⟩
  unfold WW at hn
  rw [List.nodup_cons, List.nodup_append] at hn
  refine ⟨fun e => hn.1 (e ▸ List.mem_append_right _ hm), fun hc => hn.2.2.2 a hc a hm rfl⟩
theorem InS.setL (I : InS prog w Hz hb s₀ X env C ρ O s) {x : String} {u : Value} {v : VV} {m : Str → Option Value} {h' : Heap} {tk : Nat} (hk : env.kindOf (Str.ofString x) = some .local)
    (hmv : ∀ y vv, ρ y = some vv → env.kindOf (Str.ofString y) = some .local → ∃ u, m (Str.ofString y) = some u ∧ RepVV prog w Hz s₀.heap (WW env C O) O s.heap y u vv)
    (hn : h'.Ns env.locals (fun y => if y = Str.ofString x then some u else m y)) (hs : Heap.SameBut env.locals s.heap h') (r : RepVV prog w Hz s₀.heap (WW env C O) O s.heap x u v) :
    InS prog w Hz hb s₀ X env C (ρ.set x v) O { s with heap := h', toks := tk } := by
  have K : Wrote [env.locals] (WW env C O) s.heap h' := by
    refine ⟨fun a ha => by rw [List.mem_singleton.mp ha]; exact .head _, fun b o e hb' => (hs.2 b (by simpa using hb')).trans e, fun a ha => ?_⟩
    rw [List.mem_singleton.mp ha]
    obtain ⟨o, es, ep, ho, hd, _⟩ := hn
    refine ⟨o, ho, fun ⟨vs, k, hc⟩ => ?_⟩
    rw [hc] at hd; cases hd
  obtain ⟨w1, w2, w3, w4, w5⟩ := I.toInF.wrote K
  obtain ⟨h0, t0, e0⟩ := I.same
  have hne : ∀ c ∈ C, c ≠ env.locals := fun c hc e => by
    have := I.wnodup
    unfold WW at this
    rw [List.nodup_cons] at this
    exact this.1 (e ▸ List.mem_append_left _ hc)
  refine ⟨⟨⟨h', tk, by rw [e0]⟩, w1, w2, w3, w4, I.wfresh, I.wnodup, I.kind, I.glob, I.bult, I.clk, ⟨_, hn, fun y vv e1 e2 => ?_⟩, fun y vv e1 e2 => ?_⟩, I.fc, I.finj, fun z c hc => ?_⟩
  · have e1' : (if y = x then some v else ρ y) = some vv := (set_if _ _ _ _).symm.trans e1
    by_cases hy : y = x
    · subst hy
      rw [if_pos rfl] at e1'
      (have e := si e1'; subst e; clear e1')
      refine ⟨u, if_pos rfl, r.wrote w5 K.same fun sp hsp a ha => ?_⟩
      simpa using (own_off I.wnodup hsp ha).1
    · rw [if_neg hy] at e1'
      obtain ⟨u', a, b⟩ := hmv y vv e1' e2
      refine ⟨u', (if_neg fun q => hy (ofString_inj q)).trans a, b.wrote w5 K.same fun sp hsp a ha => ?_⟩
      simpa using (own_off I.wnodup hsp ha).1
  · have hy : y ≠ x := fun q => by rw [q, hk] at e2; cases e2
    have e1' : (if y = x then some v else ρ y) = some vv := (set_if _ _ _ _).symm.trans e1
    rw [if_neg hy] at e1'
    obtain ⟨c, u', a, b, d⟩ := I.cell y vv e1' e2
    obtain ⟨c', a', hc'⟩ := I.fc y e2
    rw [a] at a'; (have e := si a'; subst e; clear a')
    refine ⟨c, u', a, b.sameBut hs (hne c hc'), d.wrote w5 K.same fun sp hsp a ha => ?_⟩
    simpa using (own_off I.wnodup hsp ha).1
  · obtain ⟨q, v, hv⟩ := I.cello z c hc
    exact ⟨q, v, hv.sameBut hs (hne c q)⟩
theorem InS.setC (I : InS prog w Hz hb s₀ X env C ρ O s) {x : String} {u : Value} {v : VV} {c : Addr} {h' : Heap} {tk : Nat} (hk : env.kindOf (Str.ofString x) = some .cell) (hc : env.cells.lookup (Str.ofString x) = some c)
    (hn : h'.IsCell c (some u)) (hs : Heap.SameBut c s.heap h') (r : RepVV prog w Hz s₀.heap (WW env C O) O s.heap x u v) :
    InS prog w Hz hb s₀ X env C (ρ.set x v) O { s with heap := h', toks := tk } := by
  have hcC : c ∈ C := by
    obtain ⟨c', a, b⟩ := I.fc x hk
    rw [hc] at a; (have e := si a; subst e; clear a); exact b
  have K : Wrote [c] (WW env C O) s.heap h' := by
    refine ⟨fun a ha => by rw [List.mem_singleton.mp ha]; exact List.mem_cons_of_mem _ (List.mem_append_left _ hcC), fun b o e hb' => (hs.2 b (by simpa using hb')).trans e, fun a ha => ?_⟩
    rw [List.mem_singleton.mp ha]
    obtain ⟨o, ho, hd⟩ := hn
    refine ⟨o, ho, fun ⟨vs, k, q⟩ => ?_⟩
    rw [q] at hd; cases hd
  obtain ⟨w1, w2, w3, w4, w5⟩ := I.toInF.wrote K
  obtain ⟨h0, t0, e0⟩ := I.same
  have hL : env.locals ≠ c := fun e => by
    have := I.wnodup
    unfold WW at this
    rw [List.nodup_cons] at this
    exact this.1 (e ▸ List.mem_append_left _ hcC)
  refine ⟨⟨⟨h', tk, by rw [e0]⟩, w1, w2, w3, w4, I.wfresh, I.wnodup, I.kind, I.glob, I.bult, I.clk, ?_, fun y vv e1 e2 => ?_⟩, I.fc, I.finj, fun z d hd => ?_⟩
  · obtain ⟨m, hm, hv⟩ := I.ns
    refine ⟨m, hm.sameBut hs hL, fun y vv e1 e2 => ?_⟩
    have hy : y ≠ x := fun q => by rw [q, hk] at e2; cases e2
    have e1' : (if y = x then some v else ρ y) = some vv := (set_if _ _ _ _).symm.trans e1
    rw [if_neg hy] at e1'
    obtain ⟨u', a, b⟩ := hv y vv e1' e2
    refine ⟨u', a, b.wrote w5 K.same fun sp hsp a ha => ?_⟩
    intro q
    exact (own_off I.wnodup hsp ha).2 ((List.mem_singleton.mp q) ▸ hcC)
  · have e1' : (if y = x then some v else ρ y) = some vv := (set_if _ _ _ _).symm.trans e1
    by_cases hy : y = x
    · subst hy
      rw [if_pos rfl] at e1'
      (have e := si e1'; subst e; clear e1')
      refine ⟨c, u, hc, hn, r.wrote w5 K.same fun sp hsp a ha q => ?_⟩
      exact (own_off I.wnodup hsp ha).2 ((List.mem_singleton.mp q) ▸ hcC)
    · rw [if_neg hy] at e1'
      obtain ⟨d, u', a, b, e⟩ := I.cell y vv e1' e2
      refine ⟨d, u', a, b.sameBut hs (fun q => ?_), e.wrote w5 K.same fun sp hsp a ha q => ?_⟩
      · exact hy (ofString_inj (I.finj _ _ _ (q ▸ a) hc))
      · exact (own_off I.wnodup hsp ha).2 ((List.mem_singleton.mp q) ▸ hcC)
  · obtain ⟨hq, v, hv⟩ := I.cello z d hd
    refine ⟨hq, ?_⟩
    by_cases q : d = c
    · exact ⟨some u, q ▸ hn⟩
    · exact ⟨v, hv.sameBut hs q⟩
theorem InS.store {A : Around} {E : Value → Shared → Prop} {Q : Unit → Shared → Prop} (I : InS prog w Hz hb s₀ X env C ρ O s) {x : String} {u : Value} {v : VV} (hk : isVar env.scope x = true) (r : RepVV prog w Hz s₀.heap (WW env C O) O s.heap x u v)
    (hQ : ∀ s', InS prog w Hz hb s₀ X env C (ρ.set x v) O s' → Step s.heap s'.heap (WW env C O) (WW env C O) → Q () s') : wpAny (model prog w) A (storeName env (Str.ofString x) u) Q E s := by
  simp only [isVar, Bool.and_eq_true, Bool.or_eq_true, decide_eq_true_eq] at hk
  rcases hk.1 with hk | hk
  · obtain ⟨m, hm, hv⟩ := I.ns
    exact wpAny_storeName_local hk hm (fun h' hn hs => hQ _ (I.setL hk hv hn hs r) ⟨fun b o e hb' => (hs.2 b fun q => hb' (q ▸ .head _)).trans e, fun _ h => .inl h⟩) (by rw [I.kind]; rfl)
  · obtain ⟨c, hc, hcC⟩ := I.fc x hk
    obtain ⟨_, v₀, hv₀⟩ := I.cello _ c hc
    exact wpAny_storeName_cell I.kind hk hc hv₀ fun h' hn hs => hQ _ (I.setC (tk := s.toks) hk hc hn hs r) ⟨fun b o e hb' => (hs.2 b fun q => hb' (q ▸ List.mem_cons_of_mem _ (List.mem_append_left _ hcC))).trans e, fun _ h => .inl h⟩

noncomputable def Rho.del (ρ : Rho) (x : String) : Rho := fun y => if y = x then none else ρ y
theorem del_set (ρ : Rho) (x : String) (v : VV) : (ρ.del x).set x v = ρ.set x v := by
  funext y
  by_cases h : y = x <;> simp [Rho.del, set_if, h]
theorem FlOk.more {s₀ h : Heap} {W : List Addr} {a : Addr} {f : Fl} {as : List Addr} (o : FlOk s₀ W f as) (al : ∀ b ∈ as, ∃ ob, h.get? b = some ob) (ha : h.get? a = none) {W' : List Addr} (hW : ∀ b, b ∈ W' → b = a ∨ b ∈ W) : FlOk s₀ W' f as := by
  have ne : ∀ b ∈ as, b ≠ a := fun b hb e => by
    obtain ⟨ob, q⟩ := al b hb
    rw [e, ha] at q; exact no q
  induction f with
  | d => exact fun b hb => ⟨(o b hb).1, fun hw => (hW b hw).elim (ne b hb) (o b hb).2⟩
  | s => exact fun b hb hw => (hW b hw).elim (ne b hb) (o b hb)
  | t => trivial
theorem RepVV.more {s₀ h : Heap} {W W' : List Addr} {O : List (String × List Addr)} {a : Addr} {x y : String} {u : Value} {vv : VV} (r : RepVV prog w Hz s₀ W O h y u vv) (ha : h.get? a = none) (hW : ∀ b, b ∈ W' → b = a ∨ b ∈ W) (hy : y ≠ x) :
    RepVV prog w Hz s₀ W' ((x, [a]) :: O) h y u vv := by
  induction vv with
  | val v =>
    obtain ⟨f, as, r, c, o⟩ := r
    exact ⟨f, as, r, c, o.more r.alive ha hW⟩
  | own o =>
    obtain ⟨sp, e, r⟩ := r
    have hyx : (y == x) = false := by simpa using hy
    refine ⟨sp, by rw [List.lookup_cons, hyx]; exact e, ?_⟩
    cases r with
    | lst a1 b c d => exact .lst a1 b c (d.more b.alive ha hW)
    | dct a1 g e' b c d => exact .dct a1 g e' b c (d.more b.alive ha hW)
    | tree a b c e f => exact .tree a b c e f
theorem InS.pushOwn (I : InS prog w Hz hb s₀ X env C ρ O s) (x : String) {o : Obj} (ho : ¬ Tup o) (hfree : o.isFreed = false) :
    InS prog w Hz hb s₀ X env C (ρ.del x) ((x, [s.heap.objs.size]) :: O) { s with heap := s.heap.push o } := by
  have hnone : s.heap.get? s.heap.objs.size = none := get?_size_none _ (Nat.le_refl _)
  have hW : ∀ b, b ∈ WW env C ((x, [s.heap.objs.size]) :: O) → b = s.heap.objs.size ∨ b ∈ WW env C O := by
    intro b hb'
    simp only [WW, List.flatMap_cons, List.mem_cons, List.mem_append, List.not_mem_nil, or_false] at hb' ⊢
    rcases hb' with h | h | h | h
    · exact .inr (.inl h)
    · exact .inr (.inr (.inl h))
    · exact .inl h
    · exact .inr (.inr (.inr h))
  have g := Grow.push s.heap o
  have new := Heap.get?_push_size s.heap hfree
  obtain ⟨fr1, fr2⟩ := I.toInF.fresh hnone
  have I' := I.grow (keeps_push s o)
  refine ⟨⟨I'.same, I'.base, I'.keep, I'.alive, fun a ha => ?_, fun a ha => ?_, ?_, I.kind, I.glob, I.bult, I.clk, ?_, fun y vv e1 e2 => ?_⟩, I.fc, I.finj, I'.cello⟩
  · rcases hW a ha with rfl | ha
    · exact ⟨o, new, ho⟩
    · exact I'.walive a ha
  · rcases hW a ha with rfl | ha
    · refine ⟨?_, fun _ => fr1⟩
      cases e : hb.get? s.heap.objs.size with
      | none => rfl
      | some o' => rw [I.base.grow _ _ e] at hnone; cases hnone
    · exact I.wfresh a ha
  · have q : (s.heap.objs.size :: WW env C O).Nodup := List.nodup_cons.mpr ⟨fr2, I.wnodup⟩
    refine List.Perm.nodup ?_ q
    unfold WW
    rw [List.flatMap_cons]
    exact (List.Perm.swap ..).trans (List.Perm.cons _ List.perm_middle.symm)
  · obtain ⟨m, hm, hv⟩ := I.ns
    refine ⟨m, hm.push o, fun y vv e1 e2 => ?_⟩
    have e1' : (if y = x then none else ρ y) = some vv := e1
    by_cases hy : y = x
    · rw [if_pos hy] at e1'; exact no e1'
    · rw [if_neg hy] at e1'
      obtain ⟨u, a, b⟩ := hv y vv e1' e2
      exact ⟨u, a, (b.more hnone hW hy).grow g⟩
  · have e1' : (if y = x then none else ρ y) = some vv := e1
    by_cases hy : y = x
    · rw [if_pos hy] at e1'; exact no e1'
    · rw [if_neg hy] at e1'
      obtain ⟨c, u, a, b, d⟩ := I.cell y vv e1' e2
      exact ⟨c, u, a, isCell_grow b g, (d.more hnone hW hy).grow g⟩
theorem push_step {o : Obj} (x : String) : Step s.heap (s.heap.push o) (WW env C O) (WW env C ((x, [s.heap.objs.size]) :: O)) := by
  refine ⟨fun b ob e _ => Heap.get?_push_of_some o e, fun b hb' => ?_⟩
  simp only [WW, List.flatMap_cons, List.mem_cons, List.mem_append, List.not_mem_nil, or_false] at hb' ⊢
  rcases hb' with h | h | h | h
  · exact .inl (.inl h)
  · exact .inl (.inr (.inl h))
  · exact .inr (h ▸ get?_size_none _ (Nat.le_refl _))
  · exact .inl (.inr (.inr h))
end

section
variable {s₀ s : Shared} {X : List Addr} {env : Env} {C : List Addr} {ρ : Rho} {O : List (String × List Addr)}
theorem InS.updOwn (I : InS prog w Hz hb s₀ X env C ρ O s) {x : String} {o o' : Own} {a : Addr} {h' : Heap} {tk : Nat} (hx : ρ x = some (.own o)) (hO : O.lookup x = some [a]) (hs : Heap.SameBut a s.heap h')
    (ht : ∃ ob, h'.get? a = some ob ∧ ¬ Tup ob) (hup : ∀ u, RepO prog w Hz s₀.heap (WW env C O) s.heap u o [a] → Off (WW env C O) s.heap h' → RepO prog w Hz s₀.heap (WW env C O) h' u o' [a]) :
    InS prog w Hz hb s₀ X env C (ρ.set x (.own o')) O { s with heap := h', toks := tk } := by
  have haW : a ∈ WW env C O := own_sub hO (.head _)
  have K : Wrote [a] (WW env C O) s.heap h' :=
    ⟨fun b hb' => by rw [List.mem_singleton.mp hb']; exact haW, fun b ob e hb' => (hs.2 b (by simpa using hb')).trans e, fun b hb' => by rw [List.mem_singleton.mp hb']; exact ht⟩
  obtain ⟨w1, w2, w3, w4, w5⟩ := I.toInF.wrote K
  obtain ⟨h0, t0, e0⟩ := I.same
  obtain ⟨hL, hC⟩ := own_off I.wnodup hO (a := a) (.head _)
  have other : ∀ y, y ≠ x → ∀ sp, O.lookup y = some sp → ∀ b ∈ sp, b ∉ [a] := by
    intro y hy sp hsp b hb' hq
    rw [List.mem_singleton] at hq
    subst hq
    have m1 := lookup_mem hO
    have m2 := lookup_mem hsp
    have nd : (O.flatMap (·.2)).Nodup := by
      have := I.wnodup
      unfold WW at this
      rw [List.nodup_cons, List.nodup_append] at this
      exact this.2.2.1
    clear hO hsp K w1 w2 w3 w4 w5 I ht hup haW hx e0
    induction O with
    | nil => cases m1
    | cons p O ih =>
      rw [List.flatMap_cons, List.nodup_append] at nd
      rcases List.mem_cons.mp m1 with e1 | m1 <;> rcases List.mem_cons.mp m2 with e2 | m2
      · rw [← e1] at e2; exact hy (congrArg Prod.fst e2)
      · exact nd.2.2 b (by rw [← e1]; exact .head _) b (List.mem_flatMap.mpr ⟨_, m2, hb'⟩) rfl
      · exact nd.2.2 b (by rw [← e2]; exact hb') b (List.mem_flatMap.mpr ⟨_, m1, .head _⟩) rfl
      · exact ih m1 m2 nd.2.1
  refine ⟨⟨⟨h', tk, by rw [e0]⟩, w1, w2, w3, w4, I.wfresh, I.wnodup, I.kind, I.glob, I.bult, I.clk, ?_, fun y vv e1 e2 => ?_⟩, I.fc, I.finj, fun z c hc => ?_⟩
  · obtain ⟨m, hm, hv⟩ := I.ns
    refine ⟨m, hm.sameBut hs (Ne.symm hL), fun y vv e1 e2 => ?_⟩
    have e1' : (if y = x then some (VV.own o') else ρ y) = some vv := (set_if _ _ _ _).symm.trans e1
    by_cases hy : y = x
    · subst hy
      rw [if_pos rfl] at e1'; (have e := si e1'; subst e; clear e1')
      obtain ⟨u, b, sp, d, r⟩ := hv y _ hx e2
      rw [hO] at d; (have e := si d; subst e; clear d)
      exact ⟨u, b, [a], hO, hup u r w5⟩
    · rw [if_neg hy] at e1'
      obtain ⟨u, b, r⟩ := hv y vv e1' e2
      exact ⟨u, b, r.wrote w5 K.same (other y hy)⟩
  · have e1' : (if y = x then some (VV.own o') else ρ y) = some vv := (set_if _ _ _ _).symm.trans e1
    obtain ⟨c, hc, hcC⟩ := I.fc y e2
    have hca : c ≠ a := fun q => hC (q ▸ hcC)
    by_cases hy : y = x
    · subst hy
      rw [if_pos rfl] at e1'; (have e := si e1'; subst e; clear e1')
      obtain ⟨c', u, b1, b2, sp, d, r⟩ := I.cell y _ hx e2
      rw [hc] at b1; (have e := si b1; subst e; clear b1)
      rw [hO] at d; (have e := si d; subst e; clear d)
      exact ⟨c, u, hc, b2.sameBut hs hca, [a], hO, hup u r w5⟩
    · rw [if_neg hy] at e1'
      obtain ⟨c', u, b1, b2, r⟩ := I.cell y vv e1' e2
      rw [hc] at b1; (have e := si b1; subst e; clear b1)
      exact ⟨c, u, hc, b2.sameBut hs hca, r.wrote w5 K.same (other y hy)⟩
  · obtain ⟨q', v, hv⟩ := I.cello z c hc
    exact ⟨q', v, hv.sameBut hs fun q => hC (q ▸ q')⟩
theorem InS.owned (I : InS prog w Hz hb s₀ X env C ρ O s) {x : String} {o : Own} {pos : Pos} {A : Around} {E : Value → Shared → Prop} {Q : Value → Shared → Prop} (hv : isVar env.scope x = true) (hx : ρ x = some (.own o)) (ho : ∀ a d, o ≠ .tree a d)
    (hQ : ∀ a, O.lookup x = some [a] → RepO prog w Hz s₀.heap (WW env C O) s.heap (.ref a) o [a] → Q (.ref a) s) : wpAny (model prog w) A (eval (.Name (Str.ofString x) pos) env) Q E s := by
  simp only [isVar, Bool.and_eq_true, Bool.or_eq_true, decide_eq_true_eq, Bool.not_eq_true'] at hv
  obtain ⟨hv, hd⟩ := hv
  have fin : ∀ u sp, O.lookup x = some sp → RepO prog w Hz s₀.heap (WW env C O) s.heap u o sp → Q u s := by
    intro u sp e r
    induction r with
    | lst a b c d => exact hQ _ e (.lst a b c d)
    | dct a g e' b c d => exact hQ _ e (.dct a g e' b c d)
    | tree a b c _ _ => exact absurd rfl (ho _ _)
  rcases hv with hv | hv
  · obtain ⟨m, hns, hm⟩ := I.ns
    obtain ⟨u, hu, sp, e, r⟩ := hm x _ hx hv
    exact wpAny_Name (wpAny_loadName_local I.kind hv hns hu (fin u sp e r)) hd
  · obtain ⟨c, u, hc, hu, sp, e, r⟩ := I.cell x _ hx hv
    exact wpAny_Name (wpAny_loadName_cell I.kind hv hc hu (fin u sp e r)) hd
end

noncomputable def S1 (prog : Program) (w : World) (hb : Heap) (n : Nat) (sc : Scope) (st : Stmt) (m : Rho → Option Out) : Prop :=
  ∀ ⦃A : Around⦄ ⦃Hz : List Addr⦄ ⦃env : Env⦄ ⦃s₀ : Shared⦄ ⦃X C : List Addr⦄ ⦃ρ : Rho⦄ ⦃O : List (String × List Addr)⦄ ⦃s : Shared⦄ ⦃r : Out⦄ ⦃Q : Flow → Shared → Prop⦄ ⦃E : Value → Shared → Prop⦄,
    env.scope = sc → RoomF A n → InS prog w Hz hb s₀ X env C ρ O s → m ρ = some r → Ends prog w Hz hb s₀ X env C O s r Q → wpAny (model prog w) A (exec st env) Q E s
theorem St.nil : St prog w hb n sc [] (fun ρ => some (.next ρ)) := by
  intro A Hz env s₀ X C ρ O s r Q E hs hA I hm hQ
  (have e := si hm; subst e; clear hm)
  exact wpAny_execs_nil (hQ O s I (Step.refl _ _))
noncomputable def thenB (m : Rho → Option Out) : Out → Option Out
  | .next ρ => m ρ
  | o => some o
theorem St.cons {st : Stmt} {rest : List Stmt} {m m' : Rho → Option Out} (h : S1 prog w hb n sc st m) (h' : St prog w hb n sc rest m') : St prog w hb n sc (st :: rest) (fun ρ => (m ρ).bind (thenB m')) := by
  intro A Hz env s₀ X C ρ O s r Q E hs hA I
  refine bindI fun o ho hm hQ => ?_
  refine wpAny_execs_cons (h hs hA I ho ?_)
  induction o with
  | next ρ' => exact fun O s' I' t => h' hs hA I' hm (hQ.trans t)
  | brk ρ' => (have e := si hm; subst e; clear hm); exact hQ
  | cont ρ' => (have e := si hm; subst e; clear hm); exact hQ
  | ret x => (have e := si hm; subst e; clear hm); exact hQ
  | retT x ρ' => (have e := si hm; subst e; clear hm); exact hQ
noncomputable def putV (ρ : Rho) (x : String) (v : V) : Option Out := match v.fl with
  | .t => none
  | _ => some (.next (ρ.set x (.val v)))
theorem putV_some {ρ : Rho} {x : String} {v : V} {r : Out} (h : putV ρ x v = some r) : (v.fl = .d ∨ v.fl = .s) ∧ r = .next (ρ.set x (.val v)) := by
  unfold putV at h
  split at h
  · exact no h
  · rename_i hf
    (have e := si h; subst e; clear h)
    refine ⟨?_, rfl⟩
    cases e : v.fl with
    | d => exact .inl rfl
    | s => exact .inr rfl
    | t => exact absurd e hf
theorem S1.assign {x : String} {e : Expr} {p pos : Pos} {m : Rho → Option V} (h : Ev prog w hb n sc e m) (hv : isVar sc x = true) (hsw : ∀ env : Env, env.scope = sc → swapsWith e (some (.Name (Str.ofString x) p)) pos.line env = pure false := by intro _ _; rfl) :
    S1 prog w hb n sc (.Assign [.Name (Str.ofString x) p] e pos) (fun ρ => (m ρ).bind (putV ρ x)) := by
  intro A Hz env s₀ X C ρ O s r Q E hs hA I
  refine bindI fun v hv' hm hQ => ?_
  obtain ⟨hf, rfl⟩ := putV_some hm
  refine wpAny_Assign_Name (h hs hA I.toInF hv' fun u s₁ k₁ r₁ => ?_) (hsw env hs)
  exact (I.grow k₁).store (v := .val v) (by rw [hs]; exact hv) ⟨hf, r₁⟩ fun s' I' t => hQ O s' I' ((Step.of_grow (keeps_grow k₁)).trans t)
noncomputable def retV : V → Option Out
  | ⟨x, .d⟩ => some (.ret x)
  | _ => none
theorem S1.ret {e : Expr} {pos : Pos} {m : Rho → Option V} (h : Ev prog w hb n sc e m) : S1 prog w hb n sc (.Return (some e) pos) (fun ρ => (m ρ).bind retV) := by
  intro A Hz env s₀ X C ρ O s r Q E hs hA I
  refine bindI fun v hv' hm hQ => ?_
  obtain ⟨x, f⟩ := v
  cases f with
  | d =>
    (have e := si hm; subst e; clear hm)
    refine wpAny_Return_some (h hs hA I.toInF hv' fun u s₁ k₁ r₁ => ?_)
    obtain ⟨as, ra, ca, oa⟩ := r₁
    exact hQ u as O ρ s₁ (I.grow k₁) ra ca fun a ha => .inr (oa a ha).1
  | _ => exact no hm
theorem S1.retOwn {x : String} {p pos : Pos} (hv : isVar sc x = true) : S1 prog w hb n sc (.Return (some (.Name (Str.ofString x) p)) pos) (fun ρ => match ρ x with | some (.own (.lst xs)) => some (.ret (.list xs)) | _ => none) := by
  intro A Hz env s₀ X C ρ O s r Q E hs hA I hm hQ
  dsimp only at hm
  split at hm
  · rename_i xs hx
    cases hm
    refine wpAny_Return_some (I.owned (by rw [hs]; exact hv) hx (fun _ _ q => by cases q) fun a hO r => ?_)
    cases r with
    | lst a1 b c d =>
      refine hQ _ _ O ρ s I (.list a1 b) c fun y hy => ?_
      rcases List.mem_cons.mp hy with rfl | hy
      · by_cases hX : y ∈ X
        · exact .inl hX
        · exact .inr ((I.wfresh y (own_sub hO (.head _))).2 hX)
      · exact .inr (d y hy).1
  · exact no hm
theorem S1.if {t : Expr} {b o : List Stmt} {pos : Pos} {mt : Rho → Option Bool} {mb mo : Rho → Option Out} (ht : Tr prog w hb n sc t mt) (h1 : St prog w hb n sc b mb) (h2 : St prog w hb n sc o mo) :
    S1 prog w hb n sc (.If t b o pos) (fun ρ => (mt ρ).bind fun c => if c then mb ρ else mo ρ) := by
  intro A Hz env s₀ X C ρ O s r Q E hs hA I
  refine bindI fun c hc hm hQ => ?_
  refine wpAny_If (ht hs hA I.toInF hc fun s₁ k₁ => ?_)
  induction c with
  | true => exact h1 hs hA (I.grow k₁) hm (hQ.trans (Step.of_grow (keeps_grow k₁)))
  | false => exact h2 hs hA (I.grow k₁) hm (hQ.trans (Step.of_grow (keeps_grow k₁)))

theorem not_tup_lst (vs : List Value) (k : Nat) : ¬ Tup (lstObj vs k) := by
  rintro ⟨_, _, q⟩
  have := congrArg Obj.cls q
  simp at this
theorem not_tup_dct {o : Obj} (h : o.cls = .type "dict") : ¬ Tup o := by
  rintro ⟨_, _, q⟩
  have := congrArg Obj.cls q
  rw [h] at this
  simp at this
theorem upd_step {O : List (String × List Addr)} {env : Env} {C : List Addr} {x : String} {a : Addr} {h h' : Heap} (hO : O.lookup x = some [a]) (hs : Heap.SameBut a h h') : Step h h' (WW env C O) (WW env C O) :=
  ⟨fun b o e hb' => (hs.2 b fun q => hb' (q ▸ own_sub hO (.head _))).trans e, fun _ h => .inl h⟩
theorem S1.ownList {x : String} {es : List Expr} {lp p pos : Pos} {ms : Rho → Option (List V)} (h : Evs prog w hb n sc es ms) (hv : isVar sc x = true) :
    S1 prog w hb n sc (.Assign [.Name (Str.ofString x) p] (.List es lp) pos) (fun ρ => (ms ρ).bind fun vs => if vs.length ≤ sizeLine ∧ flsOf vs = .d then some (.next (ρ.set x (.own (.lst (vs.map (·.x)))))) else none) := by
  intro A Hz env s₀ X C ρ O s r Q E hs hA I
  refine bindI fun vs hvs => ifI fun hz hm hQ => ?_
  · (have e := si hm; subst e; clear hm)
    refine wpAny_Assign_Name (wpAny_List (h hs hA I.toInF hvs fun us s₁ k₁ r₁ => ⟨by rw [r₁.length]; exact hz.1, ?_⟩)) rfl
    obtain ⟨as, r, c, o⟩ := r₁.rds
    rw [hz.2] at o
    have I₁ := I.grow k₁
    have I₂ := I₁.pushOwn x (o := lstObj us 0) (not_tup_lst _ _) rfl
    have hnone : s₁.heap.get? s₁.heap.objs.size = none := get?_size_none _ (Nat.le_refl _)
    refine I₂.store (v := .own (.lst (vs.map (·.x)))) (by rw [hs]; exact hv) ⟨[s₁.heap.objs.size], by rw [List.lookup_cons, beq_self_eq_true], ?_⟩ fun s' I' t => hQ _ s' (by rw [← del_set]; exact I') ((Step.of_grow (keeps_grow k₁)).trans ((push_step x).trans t))
    refine .lst (as := as) (Heap.get?_push_size _ rfl) (r.grow (Grow.push _ _)) (wf_list.mpr ⟨by simpa using hz.1, c⟩) (o.more r.alive hnone fun b hb' => ?_)
    simp only [WW, List.flatMap_cons, List.mem_cons, List.mem_append, List.not_mem_nil, or_false] at hb' ⊢
    rcases hb' with h | h | h | h
    · exact .inr (.inl h)
    · exact .inr (.inr (.inl h))
    · exact .inl h
    · exact .inr (.inr (.inr h))
theorem mapSeq_lst (vs : List Value) (k : Nat) (f : Array Value → Array Value) : ∃ k', Obj.mapSeq f (lstObj vs k) = lstObj (f vs.toArray).toList k' := ⟨_, rfl⟩
theorem S1.append {x : String} {e : Expr} {p ap cp pos : Pos} {m : Rho → Option V} (h : Ev prog w hb n sc e m) (hv : isVar sc x = true) (he : ∀ env, starEach [e] env = [(false, eval e env)]) (hl : (ap.endLine == cp.line) = true)
    (hi : ∀ env : Env, env.scope = sc → interactive env = false) :
    S1 prog w hb n sc (.Expr (.Call (.Attribute (.Name (Str.ofString x) p) (Str.ofString "append") ap) [e] [] cp) pos)
      (fun ρ => match ρ x with | some (.own (.lst xs)) => (m ρ).bind fun v => if v.fl = .d ∧ xs.length + 1 ≤ sizeLine then some (.next (ρ.set x (.own (.lst (xs ++ [v.x]))))) else none | _ => none) := by
  intro A Hz env s₀ X C ρ O s r Q E hs hA I hm hQ
  dsimp only at hm
  split at hm
  · rename_i xs hx
    obtain ⟨v, hv', hm⟩ := bindE hm
    revert hm
    refine ifI fun hz hm => ?_
    · cases hm
      refine wpAny_Expr (wpAny_Call_method rfl (by rw [he]; rfl) hl F.plainAttrs_list F.slot_list_append F.type_list_append (I.owned (by rw [hs]; exact hv) hx (fun _ _ q => by cases q) fun a hO r => ?_)) (hi env hs)
      cases r with
      | lst a1 b c d =>
        rename_i vs k as
        refine ⟨⟨_, a1, rfl⟩, fun a' ea => by cases ea; exact ⟨_, a1, rfl⟩, ?_⟩
        rw [he]
        show wpAny _ _ (callWith cp (.builtin "list.append") [.ref a] [(false, eval e env)] []) _ _ _
        refine P.append_list (h hs hA I.toInF hv' fun u s₁ k₁ r₁ => ?_)
        have I₁ := I.grow k₁
        have a1' := keeps_grow k₁ _ _ a1
        rw [wf_list] at c
        have hlen := b.length
        refine ⟨vs.toArray, k, by simp [hlen]; exact c.1, a1', ?_⟩
        obtain ⟨k', ek⟩ := mapSeq_lst vs k (fun xs => xs.push u)
        have hnew : (s₁.heap.update a (Obj.mapSeq fun xs => xs.push u)).get? a = some (lstObj (vs ++ [u]) k') := by
          rw [Heap.get?_update_self _ a1' rfl, ek]; simp
        refine hQ O _ (I₁.updOwn (tk := s₁.toks) hx hO (Heap.SameBut.update _ _ _) ⟨_, hnew, not_tup_lst _ _⟩ fun u' r' off => ?_) ((Step.of_grow (keeps_grow k₁)).trans (upd_step hO (Heap.SameBut.update _ _ _)))
        obtain ⟨bs, rv, cv, ov⟩ := r₁
        rw [hz.1] at ov
        cases r' with
        | lst a2 b2 c2 d2 =>
          refine .lst (as := as ++ (bs ++ [])) hnew (((b.grow (keeps_grow k₁)).off off fun y hy => (d y hy).2).append (.cons (rv.off off fun y hy => (ov y hy).2) .nil)) (wf_list.mpr ⟨by simpa using hz.2, ?_⟩) ?_
          · rw [wfs_append, c.2]; simp [wfs, cv]
          · rw [List.append_nil]; exact FlOk.append d ov
  · exact no hm

theorem wfk_dictOf : ∀ (xs : List (Str × PyData)), wfk (xs.map fun p => (.str p.1, p.2)) = true ↔ ∀ p ∈ xs, wf (.str p.1) = true ∧ wf p.2 = true
  | [] => by simp [wfk]
  | p :: xs => by simp [wfk, wfk_dictOf xs]
theorem wf_dictOf {xs : List (Str × PyData)} : wf (dictOf xs) = true ↔ xs.length ≤ sizeLine ∧ ∀ p ∈ xs, wf (.str p.1) = true ∧ wf p.2 = true := by
  simp only [wf, dictOf, Bool.and_eq_true, decide_eq_true_eq, List.length_map, wfk_dictOf]

noncomputable def Inert (Hz : List Addr) (h h' : Heap) : Prop := ∀ b o, h.get? b = some o → (∀ fs, o.data = .fields fs → ∀ T, o.cls ≠ .type T) → (b ∈ Hz → ¬ Tup o) → h'.get? b = some o
section
variable {h h' : Heap}
theorem IAt.inert (k : Inert Hz h h') {a dx C : Addr} {m : Str → Option Value} (i : IAt h a dx C m) : IAt h' a dx C m := by
  obtain ⟨o, h1, h2, h3, h4, h5, o', es, ep, g1, g2, g3⟩ := i
  exact ⟨o, k _ _ h1 (fun _ _ T e => by rw [h2] at e; cases e) (fun _ => by rintro ⟨vs, n, rfl⟩; cases h2), h2, h3, h4, h5, o', es, ep, k _ _ g1 (fun fs e => by rw [g2] at e; cases e) (fun _ => by rintro ⟨vs, n, rfl⟩; cases g2), g2, g3⟩
theorem ValAt.inert (k : Inert Hz h h') {V b db : Addr} {x y : Int} (i : ValAt h V b db x y) : ValAt h' V b db x y := by
  obtain ⟨m, t, u, i, r1, r2, r3⟩ := i
  exact ⟨m, t, u, i.inert k, r1, r2, r3⟩
theorem StoreAt.inert (k : Inert Hz h h') {a dx C V p hd : Addr} {pool : List (Addr × Addr)} {f : StF} {vs : List Value} {m : Str → Option Value} {ks : List (Str × Value)} (i : StoreAt prog w h a dx C V p hd pool f vs m ks) : StoreAt prog w h' a dx C V p hd pool f vs m ks :=
  { i with
    obj := i.obj.inert k
    dict := by obtain ⟨o, es, ep, ho, q1, q2, q⟩ := i.dict; exact ⟨o, es, ep, k _ _ ho (fun _ z => by rw [q2] at z; cases z) (fun _ => not_tup_dct q1.1), q1, q2, q⟩
    each := fun j b db x y e1 e2 => (i.each j b db x y e1 e2).inert k }
theorem inert_both (k : Inert Hz h h') : (∀ {v x as}, RD prog w Hz h v x as → RD prog w Hz h' v x as) ∧ ∀ {vs xs as}, RDs prog w Hz h vs xs as → RDs prog w Hz h' vs xs as :=
  RD.both .none .bool .int .str (fun a _ r => .list (k _ _ a (fun _ q => by cases q) fun _ => not_tup_lst _ _) r) (fun a z _ r => .tuple (k _ _ a (fun _ q => by cases q) fun hz => absurd hz z) z r)
    (fun q g e _ r => .dict (by obtain ⟨o, es, ep, ho, q1, q2, q⟩ := q; exact ⟨o, es, ep, k _ _ ho (fun _ z => by rw [q2] at z; cases z) (fun _ => not_tup_dct q1.1), q1, q2, q⟩) g e r) (fun i => .val (i.inert k)) (fun i _ r => .store (i.inert k) r) (fun i q e n _ r => .inst (i.inert k) q e n r) .nil (fun _ _ a r => .cons a r)
theorem RD.inert (k : Inert Hz h h') {v : Value} {x : PyData} {as : List Addr} (r : RD prog w Hz h v x as) : RD prog w Hz h' v x as := (inert_both k).1 r
theorem RDs.inert (k : Inert Hz h h') {vs : List Value} {xs : List PyData} {as : List Addr} (r : RDs prog w Hz h vs xs as) : RDs prog w Hz h' vs xs as := (inert_both k).2 r
theorem Rep.inert {s₀ : Heap} {W : List Addr} {u : Value} {v : V} (r : Rep prog w Hz s₀ W h u v) (k : Inert Hz h h') : Rep prog w Hz s₀ W h' u v := by
  obtain ⟨as, r, c, f⟩ := r; exact ⟨as, r.inert k, c, f⟩
theorem RepVV.inert {s₀ : Heap} {W : List Addr} {O : List (String × List Addr)} {x : String} {u : Value} {v : VV} (r : RepVV prog w Hz s₀ W O h x u v) (k : Inert Hz h h') : RepVV prog w Hz s₀ W O h' x u v := by
  cases v with
  | val v => exact ⟨r.1, r.2.inert k⟩
  | own o =>
    obtain ⟨sp, hsp, r⟩ := r
    refine ⟨sp, hsp, ?_⟩
    clear hsp
    induction r with
    | lst a b c d => exact .lst (k _ _ a (fun _ q => by cases q) fun _ => not_tup_lst _ _) (b.inert k) c d
    | dct a g e b c d =>
      obtain ⟨o, es, ep, ho, q1, q2, q⟩ := a
      exact .dct ⟨o, es, ep, k _ _ ho (fun _ z => by rw [q2] at z; cases z) (fun _ => not_tup_dct q1.1), q1, q2, q⟩ g e (b.inert k) c d
    | tree a b c e f => exact .tree (a.inert k) b c e f
theorem Inert.of {wr Zs : List Addr} (hin : ∀ b ∈ wr, b ∉ Zs → ∃ o fs T, h.get? b = some o ∧ o.data = .fields fs ∧ o.cls = .type T) (ht : ∀ z ∈ Zs, ∃ o, h.get? z = some o ∧ Tup o) (k : ∀ b o, b ∉ wr → h.get? b = some o → h'.get? b = some o) : Inert (Zs ++ Hz) h h' := by
  intro b o e hd hz
  by_cases hw : b ∈ wr
  · by_cases hb : b ∈ Zs
    · obtain ⟨o', e', t⟩ := ht b hb
      rw [e] at e'; (have e := si e'; subst e; clear e'); exact absurd t (hz (List.mem_append_left _ hb))
    · obtain ⟨o', fs, T, e', d, c⟩ := hin b hw hb
      rw [e] at e'; (have e := si e'; subst e; clear e'); exact absurd c (hd fs d T)
  · exact k b o hw e
end
section
variable {s₀ s : Shared} {X : List Addr} {env : Env} {C : List Addr} {ρ : Rho} {O : List (String × List Addr)}
theorem RepVV.hide {Hy : List Addr} {s₀ h : Heap} {W : List Addr} {x : String} {u : Value} {v : VV} (r : RepVV prog w Hz s₀ W O h x u v) (k : ∀ a o, h.get? a = some o → a ∉ Hz → a ∉ Hy) : RepVV prog w Hy s₀ W O h x u v := by
  cases v with
  | val v => obtain ⟨q, as, r, c, f⟩ := r; exact ⟨q, as, (hide_both k).1 r, c, f⟩
  | own o =>
    obtain ⟨sp, hsp, r⟩ := r
    refine ⟨sp, hsp, ?_⟩
    clear hsp
    induction r with
    | lst a b c d => exact .lst a ((hide_both k).2 b) c d
    | dct a g e b c d => exact .dct a g e ((hide_both k).2 b) c d
    | tree a b c e f => exact .tree ((hide_both k).1 a) b c e f
theorem InF.iterTo {Zs Hy : List Addr} (I : InF prog w (Zs ++ Hz) hb s₀ X env C ρ O s) {wr : List Addr} {h' : Heap} {tk : Nat} (hin : ∀ b ∈ wr, b ∉ Zs → ∃ o fs T, s.heap.get? b = some o ∧ o.data = .fields fs ∧ o.cls = .type T) (hfr : ∀ b ∈ wr, hb.get? b = none ∧ s₀.heap.get? b = none ∧ b ∉ WW env C O)
    (k : ∀ b o, b ∉ wr → s.heap.get? b = some o → h'.get? b = some o) (hy : ∀ z ∈ Hy, z ∈ Zs ++ Hz) (hyw : ∀ z ∈ Hy, z ∈ wr → ∃ o, h'.get? z = some o ∧ Tup o) : InF prog w Hy hb s₀ X env C ρ O { s with heap := h', toks := tk } := by
  have K : Inert (Zs ++ Hz) s.heap h' := Inert.of hin (fun z hz => (I.base.hide z (List.mem_append_left _ hz)).2) k
  have D : ∀ a o, h'.get? a = some o → a ∉ Zs ++ Hz → a ∉ Hy := fun a _ _ q z => q (hy a z)
  obtain ⟨h0, t0, e0⟩ := I.same
  refine ⟨⟨h', tk, by rw [e0]⟩, ⟨fun z hz => ?_, I.base.lim, I.base.seer, I.base.tree, I.base.mods, fun b o e => k b o (fun hw => ?_) (I.base.grow b o e)⟩, fun b o e hx => k b o (fun hw => ?_) (I.keep b o e hx), fun b o e => ?_, fun a ha => ?_, I.wfresh, I.wnodup, I.kind, I.glob, I.bult, I.clk, ?_, fun x vv e1 e2 => ?_⟩
  · obtain ⟨q, o, e, t⟩ := I.base.hide z (hy z hz)
    refine ⟨q, ?_⟩
    by_cases hw : z ∈ wr
    · exact hyw z hz hw
    · exact ⟨o, k z o hw e, t⟩
  · rw [(hfr b hw).1] at e; exact no e
  · rw [(hfr b hw).2.1] at e; cases e
  · obtain ⟨o', e'⟩ := I.alive b o e
    exact ⟨o', k b o' (fun hw => by rw [(hfr b hw).2.1] at e; cases e) e'⟩
  · obtain ⟨o, e, c⟩ := I.walive a ha
    exact ⟨o, k a o (fun hw => (hfr a hw).2.2 ha) e, c⟩
  · obtain ⟨m, hm, hv⟩ := I.ns
    refine ⟨m, ?_, fun x vv e1 e2 => ?_⟩
    · obtain ⟨o, es, ep, ho, hd, r⟩ := hm
      exact ⟨o, es, ep, K _ _ ho (fun _ z => by rw [hd] at z; cases z) (fun _ => by rintro ⟨vs, n, rfl⟩; cases hd), hd, r⟩
    · obtain ⟨u, a, b⟩ := hv x vv e1 e2
      exact ⟨u, a, (b.inert K).hide D⟩
  · obtain ⟨c, u, a, ⟨o, ho, hd⟩, d⟩ := I.cell x vv e1 e2
    exact ⟨c, u, a, ⟨o, K _ _ ho (fun _ z => by rw [hd] at z; cases z) (fun _ => by rintro ⟨vs, n, rfl⟩; cases hd), hd⟩, (d.inert K).hide D⟩
theorem InS.iterTo {Zs Hy : List Addr} (I : InS prog w (Zs ++ Hz) hb s₀ X env C ρ O s) {wr : List Addr} {h' : Heap} {tk : Nat} (hin : ∀ b ∈ wr, b ∉ Zs → ∃ o fs T, s.heap.get? b = some o ∧ o.data = .fields fs ∧ o.cls = .type T) (hfr : ∀ b ∈ wr, hb.get? b = none ∧ s₀.heap.get? b = none ∧ b ∉ WW env C O)
    (k : ∀ b o, b ∉ wr → s.heap.get? b = some o → h'.get? b = some o) (hy : ∀ z ∈ Hy, z ∈ Zs ++ Hz) (hyw : ∀ z ∈ Hy, z ∈ wr → ∃ o, h'.get? z = some o ∧ Tup o) : InS prog w Hy hb s₀ X env C ρ O { s with heap := h', toks := tk } := by
  refine ⟨I.toInF.iterTo hin hfr k hy hyw, I.fc, I.finj, fun z c hc => ?_⟩
  obtain ⟨q, v, o, ho, hd⟩ := I.cello z c hc
  exact ⟨q, v, o, (Inert.of (Hz := Hz) hin (fun z hz => (I.base.hide z (List.mem_append_left _ hz)).2) k) _ _ ho (fun _ z => by rw [hd] at z; cases z) (fun _ => by rintro ⟨vs, n, rfl⟩; cases hd), hd⟩
theorem InF.growZ {Zs : List Addr} {s' : Shared} (I : InF prog w Hz hb s₀ X env C ρ O s) (k : Keeps s s') (hz : ∀ z ∈ Zs, s.heap.get? z = none) (ht : ∀ z ∈ Zs, ∃ o, s'.heap.get? z = some o ∧ Tup o) : InF prog w (Zs ++ Hz) hb s₀ X env C ρ O s' := by
  have D : ∀ a o, s.heap.get? a = some o → a ∉ Hz → a ∉ Zs ++ Hz := fun a o e q z => (List.mem_append.mp z).elim (fun z => by rw [hz a z] at e; exact no e) q
  have J := I.grow k
  refine ⟨J.same, ⟨fun z q => ?_, J.base.lim, J.base.seer, J.base.tree, J.base.mods, J.base.grow⟩, J.keep, J.alive, J.walive, J.wfresh, J.wnodup, J.kind, J.glob, J.bult, J.clk, ?_, fun x vv e1 e2 => ?_⟩
  · rcases List.mem_append.mp q with q | q
    · refine ⟨?_, ht z q⟩
      cases e : hb.get? z with
      | none => rfl
      | some o => have := I.base.grow _ _ e; rw [hz z q] at this; exact no this
    · exact J.base.hide z q
  · obtain ⟨m, hm, hv⟩ := I.ns
    refine ⟨m, hm.keeps (keeps_grow k), fun x vv e1 e2 => ?_⟩
    obtain ⟨u, a, b⟩ := hv x vv e1 e2
    exact ⟨u, a, (b.hide D).grow (keeps_grow k)⟩
  · obtain ⟨c, u, a, b, d⟩ := I.cell x vv e1 e2
    exact ⟨c, u, a, isCell_grow b (keeps_grow k), (d.hide D).grow (keeps_grow k)⟩
theorem InS.growZ {Zs : List Addr} {s' : Shared} (I : InS prog w Hz hb s₀ X env C ρ O s) (k : Keeps s s') (hz : ∀ z ∈ Zs, s.heap.get? z = none) (ht : ∀ z ∈ Zs, ∃ o, s'.heap.get? z = some o ∧ Tup o) : InS prog w (Zs ++ Hz) hb s₀ X env C ρ O s' :=
  ⟨I.toInF.growZ k hz ht, I.fc, I.finj, fun x c hc => let ⟨q, v, h⟩ := I.cello x c hc; ⟨q, v, isCell_grow h (keeps_grow k)⟩⟩
theorem InF.dropZ {Zs : List Addr} (J : InF prog w (Zs ++ Hz) hb s₀ X env C ρ O s) : InF prog w Hz hb s₀ X env C ρ O s := by
  have D : ∀ a o, s.heap.get? a = some o → a ∉ Zs ++ Hz → a ∉ Hz := fun a _ _ q z => q (List.mem_append_right _ z)
  refine ⟨J.same, ⟨fun z q => J.base.hide z (List.mem_append_right _ q), J.base.lim, J.base.seer, J.base.tree, J.base.mods, J.base.grow⟩, J.keep, J.alive, J.walive, J.wfresh, J.wnodup, J.kind, J.glob, J.bult, J.clk, ?_, fun x vv e1 e2 => ?_⟩
  · obtain ⟨m, hm, hv⟩ := J.ns
    refine ⟨m, hm, fun x vv e1 e2 => ?_⟩
    obtain ⟨u, a, b⟩ := hv x vv e1 e2
    exact ⟨u, a, b.hide D⟩
  · obtain ⟨c, u, a, b, d⟩ := J.cell x vv e1 e2
    exact ⟨c, u, a, b, d.hide D⟩
theorem InS.dropZ {Zs : List Addr} (J : InS prog w (Zs ++ Hz) hb s₀ X env C ρ O s) : InS prog w Hz hb s₀ X env C ρ O s := ⟨J.toInF.dropZ, J.fc, J.finj, J.cello⟩
theorem Ends.hide {Zs : List Addr} {r : Out} {Q : Flow → Shared → Prop} (h : Ends prog w Hz hb s₀ X env C O s r Q) : Ends prog w (Zs ++ Hz) hb s₀ X env C O s r Q := by
  induction r with
  | next ρ => exact fun O'' s'' I t => h O'' s'' I.dropZ t
  | brk ρ => exact fun O'' s'' I t => h O'' s'' I.dropZ t
  | cont ρ => exact fun O'' s'' I t => h O'' s'' I.dropZ t
  | ret x => exact fun u as O' ρ s' I r c f => h u as O' ρ s' I.dropZ ((hide_both fun a _ _ q z => q (List.mem_append_right _ z)).1 r) c f
  | retT x ρ => exact fun u O' s' I r c => h u O' s' I.dropZ ((hide_both fun a _ _ q z => q (List.mem_append_right _ z)).1 r) c
end

structure Stream (prog : Program) (w : World) (Hz : List Addr) (A : Around) (tgt : Expr) (I : Addr) (F wr Zs : List Addr) (xs : List PyData) (S : Nat → Heap → Prop) : Prop where
  frame : ∀ i h h' W, S i h → Off W h h' → (∀ a ∈ F, a ∉ W) → (∀ b ∈ wr, b ∉ W) → S i h'
  inert : ∀ i h, S i h → ∀ b ∈ wr, b ∉ Zs → ∃ o fs T, h.get? b = some o ∧ o.data = .fields fs ∧ o.cls = .type T
  tups : ∀ i h, S i h → ∀ z ∈ Zs, ∃ o, h.get? z = some o ∧ Tup o
  sub : ∀ z ∈ Zs, z ∈ wr
  alive : ∀ i h, S i h → ∀ a ∈ F, ∃ o, h.get? a = some o
  turn : ∀ i x (s : Shared) (Q : Value → Shared → Prop) (E : Value → Shared → Prop), xs[i]? = some x → S i s.heap → (∀ z ∈ Hz, ∃ o, s.heap.get? z = some o) →
    (∀ v as h' tk, RD prog w (Zs ++ Hz) h' v x as → (∀ a ∈ as, a ∈ F) → S (i + 1) h' → (∀ b o, b ∉ wr → s.heap.get? b = some o → h'.get? b = some o) → Q v { s with heap := h', toks := tk }) →
    wpAny (model prog w) A (pyNext (.ref I)) (fun r s₁ => match r with | none => False | some v => wpAny (model prog w) A (letOwnedTupleGo tgt (.ref I) v) (fun _ s₂ => Q v s₂) E s₁) E s
  done : ∀ (s : Shared) (Q : Option Value → Shared → Prop) (E : Value → Shared → Prop), S xs.length s.heap →
    (∀ h' tk, (∀ b o, b ∉ wr → s.heap.get? b = some o → h'.get? b = some o) → Q none { s with heap := h', toks := tk }) → wpAny (model prog w) A (pyNext (.ref I)) Q E s
  self : ∀ i (s : Shared) (Q : Value → Shared → Prop) (E : Value → Shared → Prop), S i s.heap → Q (.ref I) s → wpAny (model prog w) A (pyIter (.ref I)) Q E s
theorem Stream.there {A : Around} {tgt : Expr} {I : Addr} {F wr Zs : List Addr} {xs : List PyData} {S : Nat → Heap → Prop} (T : Stream prog w Hz A tgt I F wr Zs xs S) {i : Nat} {h : Heap} (st : S i h) {b : Addr} (hb' : b ∈ wr) : ∃ o, h.get? b = some o := by
  by_cases hz : b ∈ Zs
  · obtain ⟨o, e, _⟩ := T.tups i h st b hz; exact ⟨o, e⟩
  · obtain ⟨o, _, _, e, _⟩ := T.inert i h st b hb' hz; exact ⟨o, e⟩

noncomputable def It (prog : Program) (w : World) (hb : Heap) (n : Nat) (sc : Scope) (tgt : Expr) (e : Expr) (m : Rho → Option (List PyData × Fl)) : Prop :=
  (∀ (env : Env) x, foldedSetIterable e env x = pure x) ∧
  ∀ ⦃A : Around⦄ ⦃Hz : List Addr⦄ ⦃env : Env⦄ ⦃s₀ : Shared⦄ ⦃X C : List Addr⦄ ⦃ρ : Rho⦄ ⦃O : List (String × List Addr)⦄ ⦃s : Shared⦄ ⦃v : List PyData × Fl⦄ ⦃Q : Value → Shared → Prop⦄ ⦃E : Value → Shared → Prop⦄,
    env.scope = sc → RoomF A n → InF prog w Hz hb s₀ X env C ρ O s → m ρ = some v →
    (∀ I F wr Zs S s', Keeps s s' → Stream prog w Hz A tgt I F wr Zs v.1 S → S 0 s'.heap → FlOk s₀.heap (WW env C O) v.2 F → wfs v.1 = true → v.1.length ≤ sizeLine → (∀ b ∈ wr, s.heap.get? b = none) → Q (.ref I) s') →
    wpAny (model prog w) A (eval e env) (fun x s₁ => wpAny (model prog w) A (pyIter x) Q E s₁) E s
noncomputable def Tg (prog : Program) (w : World) (hb : Heap) (sc : Scope) (tgt : Expr) (m : V → Rho → Option Rho) : Prop :=
  ∀ ⦃A : Around⦄ ⦃Hz : List Addr⦄ ⦃env : Env⦄ ⦃s₀ : Shared⦄ ⦃X C : List Addr⦄ ⦃ρ ρ' : Rho⦄ ⦃O : List (String × List Addr)⦄ ⦃s : Shared⦄ ⦃u : Value⦄ ⦃v : V⦄ ⦃Q : Unit → Shared → Prop⦄ ⦃E : Value → Shared → Prop⦄,
    env.scope = sc → A.handled = none → InS prog w Hz hb s₀ X env C ρ O s → Rep prog w Hz s₀.heap (WW env C O) s.heap u v → m v ρ = some ρ' →
    (∀ s', InS prog w Hz hb s₀ X env C ρ' O s' → Step s.heap s'.heap (WW env C O) (WW env C O) → Q () s') → wpAny (model prog w) A (assign tgt env u) Q E s
noncomputable def forD (bind : V → Rho → Option Rho) (body : Rho → Option Out) (f : Fl) : List PyData → Rho → Option Out
  | [], ρ => some (.next ρ)
  | x :: xs, ρ => (bind (V.fix x f) ρ).bind fun ρ₁ => (body ρ₁).bind fun o => match o with
    | .next ρ₂ => forD bind body f xs ρ₂
    | .cont ρ₂ => forD bind body f xs ρ₂
    | .brk ρ₂ => some (.next ρ₂)
    | .ret y => some (.ret y)
    | .retT y ρ => some (.retT y ρ)
theorem Step.off {h h' : Heap} {W W' : List Addr} (k : Step h h' W W') (ht : ∀ a ∈ W, ∃ o, h.get? a = some o ∧ ¬ Tup o) : Off W h h' := by
  intro b o e hc
  refine k.keep b o e fun hw => ?_
  rcases hc with hc | hc
  · exact hc hw
  · obtain ⟨o', e', q⟩ := ht b hw
    rw [e] at e'; (have e := si e'; subst e; clear e'); exact q hc
set_option maxHeartbeats 1000000 in
theorem turn_lt {i n : Nat} (h : i < n) : n + 1 - (i + 1) < n + 1 - i := by lia
variable (prog w) in
inductive ForI (Hz : List Addr) (hb : Heap) (s₀ : Shared) (X : List Addr) (env : Env) (C W wr : List Addr) (h₁ : Heap) (S : Nat → Heap → Prop) (bind : V → Rho → Option Rho) (mb : Rho → Option Out) (f : Fl) (xs : List PyData) (r : Out) : Nat → Shared → Prop
  | mk (i : Nat) (ρ₂ : Rho) (O₂ : List (String × List Addr)) (s₂ : Shared) (h1 : i ≤ xs.length) (h2 : InS prog w Hz hb s₀ X env C ρ₂ O₂ s₂) (h3 : ∀ b o, h₁.get? b = some o → b ∉ W → b ∉ wr → s₂.heap.get? b = some o) (h4 : ∀ a ∈ WW env C O₂, a ∈ W ∨ h₁.get? a = none) (h5 : S i s₂.heap) (h6 : forD bind mb f (xs.drop i) ρ₂ = some r) : ForI Hz hb s₀ X env C W wr h₁ S bind mb f xs r (xs.length + 1 - i) s₂
theorem S1.for {tgt e : Expr} {body : List Stmt} {pos : Pos} {m : Rho → Option (List PyData × Fl)} {bind : V → Rho → Option Rho} {mb : Rho → Option Out} (hi : It prog w hb n sc tgt e m) (ht : Tg prog w hb sc tgt bind) (hbd : St prog w hb n sc body mb) :
    S1 prog w hb n sc (.For tgt e body [] pos) (fun ρ => (m ρ).bind fun v => if v.2 = .t then none else forD bind mb v.2 v.1 ρ) := by
  intro A Hz env s₀ X C ρ O s r Q E hs hA I
  refine bindI fun z0 hv hm hQ => ?_
  obtain ⟨xs, f⟩ := z0
  dsimp only at hm
  split at hm
  · exact no hm
  rename_i hf
  refine wpAny_For (hi.2 hs hA I.toInF hv fun J F wr Zs S s₁ k₁ T hS hF hwf hlen hwr => ?_) (hi.1 env)
  have I₁ := I.growZ k₁ (fun z hz => hwr z (T.sub z hz)) (T.tups 0 _ hS)
  have hFW : ∀ a ∈ F, a ∉ WW env C O := by
    induction f with
    | d => exact fun a ha => (hF a ha).2
    | s => exact hF
    | t => exact absurd rfl hf
  have wrOk : ∀ b ∈ wr, hb.get? b = none ∧ s₀.heap.get? b = none ∧ b ∉ WW env C O := by
    intro b hb'
    have h0 := hwr b hb'
    obtain ⟨f1, f2⟩ := I.toInF.fresh h0
    refine ⟨?_, f1, f2⟩
    cases e : hb.get? b with
    | none => rfl
    | some o => rw [I.base.grow _ _ e] at h0; cases h0
  have notHz : ∀ b ∈ wr, b ∉ Hz := fun b hb' hz => by
    obtain ⟨_, o, e, _⟩ := I.base.hide b hz
    rw [hwr b hb'] at e; exact no e
  have step : ∀ {O₂ : List (String × List Addr)} {h₂ : Heap}, (∀ b o, s₁.heap.get? b = some o → b ∉ WW env C O → b ∉ wr → h₂.get? b = some o) → (∀ a ∈ WW env C O₂, a ∈ WW env C O ∨ s₁.heap.get? a = none) → Step s.heap h₂ (WW env C O) (WW env C O₂) := by
    intro O₂ h₂ K N
    refine ⟨fun b o e hw => K b o (keeps_grow k₁ _ _ e) hw fun hq => ?_, fun a ha => (N a ha).imp id fun q => ?_⟩
    · rw [hwr b hq] at e; exact no e
    · cases e : s.heap.get? a with
      | none => rfl
      | some o => rw [keeps_grow k₁ _ _ e] at q; cases q
  refine codeAny_forLoop_any (ForI prog w (Zs ++ Hz) hb s₀ X env C (WW env C O) wr s₁.heap S bind mb f xs r) ?_ (xs.length + 1) (ForI.mk 0 ρ O s₁ (Nat.zero_le _) I₁ (fun _ _ e _ _ => e) (fun _ h => .inl h) hS hm)
  rintro k s₂ ⟨i, ρ₂, O₂, _, hil, I₂, K₂, N₂, hS₂, hm₂⟩
  have wr₂ : ∀ b ∈ wr, b ∉ WW env C O₂ := by
    intro b hb' hq
    rcases N₂ b hq with q | q
    · exact (wrOk b hb').2.2 q
    · obtain ⟨o, e⟩ := T.there hS hb'; rw [e] at q; cases q
  have F₂ : ∀ a ∈ F, a ∉ WW env C O₂ := by
    intro a ha hq
    rcases N₂ a hq with q | q
    · exact hFW a ha q
    · obtain ⟨o, e⟩ := T.alive 0 _ hS a ha; rw [e] at q; cases q
  have out₂ : ∀ b o, s₁.heap.get? b = some o → b ∉ WW env C O → b ∉ WW env C O₂ := fun b o e hw hq => (N₂ b hq).elim hw fun q => by rw [e] at q; cases q
  by_cases hlt : i < xs.length
  · have hx : xs[i]? = some xs[i] := List.getElem?_eq_getElem hlt
    rw [List.drop_eq_getElem_cons hlt] at hm₂
    simp only [forD] at hm₂
    obtain ⟨ρ₃, hb₃, hm₃⟩ := bindE hm₂
    obtain ⟨o, ho, hm₄⟩ := bindE hm₃
    refine wpAny_mono (T.turn i _ s₂ (fun v s₃ => wpAny (model prog w) A (PySem.assign tgt env v) (fun _ s₄ => wpAny (model prog w) A (execs body env) (fun fl s₅ => match fl with
            | .next | .cont => ∃ m, m < xs.length + 1 - i ∧ ForI prog w (Zs ++ Hz) hb s₀ X env C (WW env C O) wr s₁.heap S bind mb f xs r m s₅
            | .brk => Q .next s₅
            | .ret v => Q (.ret v) s₅) (notedBy (model prog w) A env fun e s' => cameBackBy (model prog w) A env E e s') s₄) (notedBy (model prog w) A env fun e s' => cameBackBy (model prog w) A env E e s') s₃) (notedBy (model prog w) A env fun e s' => cameBackBy (model prog w) A env E e s') hx hS₂ (fun z hz => let ⟨_, o, e, _⟩ := I₂.base.hide z (List.mem_append_right _ hz); ⟨o, e⟩) fun v as h' tk rd has hS₃ kp => ?_) (fun rr s₃ h₃ => ?_) fun _ _ e => e
    · have I₃ := I₂.iterTo (Hy := Zs ++ Hz) (tk := tk) (T.inert i _ hS₂) (fun b hb' => ⟨(wrOk b hb').1, (wrOk b hb').2.1, wr₂ b hb'⟩) kp (fun _ q => q) (fun z hz hw => (List.mem_append.mp hz).elim (T.tups _ _ hS₃ z) fun q => absurd q (notHz z hw))
      have rep : Rep prog w (Zs ++ Hz) s₀.heap (WW env C O₂) h' v (V.fix xs[i] f) := by
        refine Rep.fixed rd ((wfs_iff _).mp hwf _ (List.getElem_mem _)) ?_
        induction f with
        | d => exact fun a ha => ⟨(hF a (has a ha)).1, F₂ a (has a ha)⟩
        | s => exact fun a ha => F₂ a (has a ha)
        | t => trivial
      refine ht hs hA.handled I₃ rep hb₃ fun s₄ I₄ T₄ => ?_
      have K₄ : S (i + 1) s₄.heap := T.frame _ _ _ (WW env C O₂) hS₃ (T₄.off I₃.walive) F₂ wr₂
      have keep₄ : ∀ b o, s₁.heap.get? b = some o → b ∉ WW env C O → b ∉ wr → s₄.heap.get? b = some o := fun b o e hw hq => T₄.keep b o (kp b o hq (K₂ b o e hw hq)) (out₂ b o e hw)
      have fin : ∀ {O₅ : List (String × List Addr)} {s₅ : Shared}, Step s₄.heap s₅.heap (WW env C O₂) (WW env C O₅) → (∀ b o, s₁.heap.get? b = some o → b ∉ WW env C O → b ∉ wr → s₅.heap.get? b = some o) ∧ (∀ a ∈ WW env C O₅, a ∈ WW env C O ∨ s₁.heap.get? a = none) := by
        intro O₅ s₅ T₅
        refine ⟨fun b o e hw hq => T₅.keep b o (keep₄ b o e hw hq) (out₂ b o e hw), fun a ha => ?_⟩
        rcases T₅.new a ha with q | q
        · exact N₂ a q
        · by_cases hw : a ∈ WW env C O
          · exact .inl hw
          · refine .inr ?_
            cases e : s₁.heap.get? a with
            | none => rfl
            | some o =>
              by_cases hq : a ∈ wr
              · obtain ⟨o', e'⟩ := T.there K₄ hq; rw [e'] at q; cases q
              · rw [keep₄ a o e hw hq] at q; cases q
      refine hbd hs hA I₄ ho ?_
      induction o with
      | next ρ₅ =>
        intro O₅ s₅ I₅ T₅
        obtain ⟨f1, f2⟩ := fin T₅
        exact ⟨_, turn_lt hlt, .mk (i + 1) ρ₅ O₅ s₅ hlt I₅ f1 f2 (T.frame _ _ _ (WW env C O₂) K₄ (T₅.off I₄.walive) F₂ wr₂) hm₄⟩
      | cont ρ₅ =>
        intro O₅ s₅ I₅ T₅
        obtain ⟨f1, f2⟩ := fin T₅
        exact ⟨_, turn_lt hlt, .mk (i + 1) ρ₅ O₅ s₅ hlt I₅ f1 f2 (T.frame _ _ _ (WW env C O₂) K₄ (T₅.off I₄.walive) F₂ wr₂) hm₄⟩
      | brk ρ₅ =>
        (have e := si hm₄; subst e; clear hm₄)
        intro O₅ s₅ I₅ T₅
        obtain ⟨f1, f2⟩ := fin T₅
        exact hQ O₅ s₅ I₅.dropZ (step f1 f2)
      | ret y =>
        (have e := si hm₄; subst e; clear hm₄)
        exact Ends.hide (r := .ret y) hQ
      | retT y ρ =>
        (have e := si hm₄; subst e; clear hm₄)
        exact Ends.hide (r := .retT y ρ) hQ
    · induction rr with
      | none => exact h₃.elim
      | some v => exact h₃
  · have hi' : i = xs.length := by lia
    subst hi'
    simp only [List.drop_length, forD] at hm₂
    (have e := si hm₂; subst e; clear hm₂)
    refine T.done s₂ _ _ hS₂ fun h' tk kp => wpAny_execs_nil ?_
    have I₃ := I₂.iterTo (Hy := Hz) (tk := tk) (T.inert _ _ hS₂) (fun b hb' => ⟨(wrOk b hb').1, (wrOk b hb').2.1, wr₂ b hb'⟩) kp (fun _ q => List.mem_append_right _ q) (fun z hz hw => absurd hz (notHz z hw))
    exact hQ O₂ _ I₃ (step (fun b o e hw hq => kp b o hq (K₂ b o e hw hq)) N₂)

theorem letGo_plain {A : Around} {E : Value → Shared → Prop} {s : Shared} {tgt : Expr} {I : Addr} {v : Value} {o : Obj} {T : String} {Q : Unit → Shared → Prop} (ho : s.heap.get? I = some o) (hc : o.cls = .type T)
    (hT : ["enumerate", "zip", "dict_itemiterator", "dict_reverseitemiterator", "odict_iterator", "itertools.zip_longest", "itertools.pairwise"].contains T = false) (h : Q () s) :
    wpAny (model prog w) A (letOwnedTupleGo tgt (.ref I) v) Q E s := by
  have fin : wpAny (model prog w) A (match o.cls, o.data with
      | .type n, .fields vs => (do
        let (.ref a) := v | return ()
        if ["enumerate", "zip", "dict_itemiterator", "dict_reverseitemiterator", "odict_iterator", "itertools.zip_longest", "itertools.pairwise"].contains n && vs[0]? == some (rawInt a) then
          rule "for.unpacks-the-owned-tuple"
          updateField I 0 .none : Sem Unit)
      | _, _ => pure ()) Q E s := by
    obtain ⟨oc, od, dt, sl⟩ := o
    dsimp only at hc ⊢
    subst hc
    induction dt with
    | fields vs =>
      induction v with
      | ref a =>
        show wpAny (model prog w) A (if (["enumerate", "zip", "dict_itemiterator", "dict_reverseitemiterator", "odict_iterator", "itertools.zip_longest", "itertools.pairwise"].contains T && vs[0]? == some (rawInt a)) = true then _ else _) Q E s
        rw [hT, Bool.false_and, if_neg Bool.false_ne_true]
        exact wpAny_pure h
      | _ => exact wpAny_pure h
    | _ => exact wpAny_pure h
  cases tgt with
  | Tuple => induction v with
    | ref a => exact wpAny_bind (wpAny_load ho fin)
    | _ => exact wpAny_pure h
  | List => induction v with
    | ref a => exact wpAny_bind (wpAny_load ho fin)
    | _ => exact wpAny_pure h
  | _ => exact wpAny_pure h
theorem Stream.list {A : Around} (hh : A.handled = none) (tgt : Expr) (I a : Addr) (xs : List PyData) (F : List Addr) :
    Stream prog w Hz A tgt I (a :: F) [I] [] xs (fun i h => h.IsListIter I a i ∧ RD prog w Hz h (.ref a) (.list xs) (a :: F)) where
  frame := fun i h h' W st off hF hw => ⟨by
      obtain ⟨o, ho, r⟩ := st.1
      exact ⟨o, off _ _ ho (.inl (hw I (.head _))), r⟩, st.2.off off hF⟩
  tups := fun _ _ _ _ q => nomatch q
  sub := fun _ q => nomatch q
  inert := fun i h st b hb' _ => by
    rw [List.mem_singleton.mp hb']
    obtain ⟨o, ho, hc, hd⟩ := st.1
    exact ⟨o, _, _, ho, hd, hc⟩
  alive := fun i h st => st.2.alive
  turn := fun i x s Q E hx st _ hQ => by
    obtain ⟨hit, rl⟩ := st
    obtain ⟨_, _, _, _, q1, q2, a1, a2⟩ := rl.list_inv
    cases q1; cases q2
    · skip
      obtain ⟨v, cs, e1, e2, e3⟩ := a2.get hx
      refine wpAny_pyNext_list_item hit ⟨_, a1, rfl, _, rfl⟩ (by simpa using e1) fun h' hit' hs' => ?_
      have K : Inert Hz s.heap h' := by
        intro b o e hd _
        refine (hs'.2 b fun q => ?_).trans e
        obtain ⟨o', ho', hc', hd'⟩ := hit
        rw [q, ho'] at e; cases e
        exact hd _ hd' _ hc'
      obtain ⟨o', ho', hc', hd'⟩ := hit'
      refine letGo_plain ho' hc' (by decide) (hQ v cs h' s.toks (e2.inert K) (fun b hb' => .tail _ (e3 b hb')) ⟨⟨o', ho', hc', hd'⟩, (RD.list a1 a2).inert K⟩ fun b o hb' e => (hs'.2 b (by simpa using hb')).trans e)
  done := fun s Q E st hQ => by
    obtain ⟨hit, rl⟩ := st
    obtain ⟨_, _, _, _, q1, q2, a1, a2⟩ := rl.list_inv
    cases q1; cases q2
    · skip
      refine wpAny_pyNext_list_end hh hit ⟨_, a1, rfl, _, rfl⟩ (by simp [a2.length]) fun h' he' => hQ h' s.toks fun b o hb' e => he' b o (by simpa using hb') e
  self := fun i s Q E st hQ => wpAny_pyIter_listiter st.1 hQ
theorem Stream.tuple {A : Around} (hh : A.handled = none) (tgt : Expr) (I a : Addr) (xs : List PyData) (F : List Addr) :
    Stream prog w Hz A tgt I F [I] [] xs (fun i h => h.IsTupleIter I a i ∧ RD prog w Hz h (.ref a) (.tuple xs) F) where
  frame := fun i h h' W st off hF hw => ⟨by
      obtain ⟨o, ho, r⟩ := st.1
      exact ⟨o, off _ _ ho (.inl (hw I (.head _))), r⟩, st.2.off off hF⟩
  tups := fun _ _ _ _ q => nomatch q
  sub := fun _ q => nomatch q
  inert := fun i h st b hb' _ => by
    rw [List.mem_singleton.mp hb']
    obtain ⟨o, ho, hc, hd⟩ := st.1
    exact ⟨o, _, _, ho, hd, hc⟩
  alive := fun i h st => st.2.alive
  turn := fun i x s Q E hx st _ hQ => by
    obtain ⟨hit, rl⟩ := st
    cases rl with
    | tuple a1 az a2 =>
      obtain ⟨v, cs, e1, e2, e3⟩ := a2.get hx
      refine wpAny_pyNext_tuple_item hit ⟨_, a1, rfl, _, rfl⟩ (by simpa using e1) fun h' hit' hs' => ?_
      have K : Inert Hz s.heap h' := by
        intro b o e hd _
        refine (hs'.2 b fun q => ?_).trans e
        obtain ⟨o', ho', hc', hd'⟩ := hit
        rw [q, ho'] at e; (have e := si e; subst e; clear e)
        exact hd _ hd' _ hc'
      obtain ⟨o', ho', hc', hd'⟩ := hit'
      refine letGo_plain ho' hc' (by decide) (hQ v cs h' s.toks (e2.inert K) e3 ⟨⟨o', ho', hc', hd'⟩, (RD.tuple a1 az a2).inert K⟩ fun b o hb' e => (hs'.2 b (by simpa using hb')).trans e)
  done := fun s Q E st hQ => by
    obtain ⟨hit, rl⟩ := st
    cases rl with
    | tuple a1 az a2 =>
      refine wpAny_pyNext_tuple_end hh hit ⟨_, a1, rfl, _, rfl⟩ (by simp [a2.length]) fun h' he' => hQ h' s.toks fun b o hb' e => he' b o (by simpa using hb') e
  self := fun i s Q E st hQ => wpAny_pyIter_tupleiter st.1 hQ
theorem Stream.ofWalks {A : Around} {tgt : Expr} {I : Addr} {k : Nat} {P : Nat → Value → Prop} {S : Nat → Heap → Prop} {xs : List PyData} (W : Walks prog w A I [I] [I] k P S) (hlen : xs.length = k)
    (hP : ∀ i v x h, P i v → xs[i]? = some x → RD prog w Hz h v x []) (hin : ∀ i h, S i h → ∃ o fs T, h.get? I = some o ∧ o.data = .fields fs ∧ o.cls = .type T ∧ ["enumerate", "zip", "dict_itemiterator", "dict_reverseitemiterator", "odict_iterator", "itertools.zip_longest", "itertools.pairwise"].contains T = false) :
    Stream prog w Hz A tgt I [] [I] [] xs S where
  frame := fun i h h' V st off _ hw => W.frame i h h' st fun b hb' o e => off b o e (.inl (hw b hb'))
  tups := fun _ _ _ _ q => nomatch q
  sub := fun _ q => nomatch q
  inert := fun i h st b hb' _ => by
    rw [List.mem_singleton.mp hb']
    obtain ⟨o, fs, T, e, d, c, _⟩ := hin i h st
    exact ⟨o, fs, T, e, d, c⟩
  alive := fun _ _ _ _ h => nomatch h
  turn := fun i x s Q E hx st _ hQ => by
    have hi : i < k := by rw [← hlen]; exact (List.getElem?_eq_some_iff.mp hx).1
    refine W.item i s _ _ hi st fun v h' tk hv st' kp => ?_
    obtain ⟨o, fs, T, e, d, c, hT⟩ := hin _ _ st'
    exact letGo_plain e c hT (hQ v [] h' tk (hP i v x h' hv hx) (fun _ h => nomatch h) st' kp)
  done := fun s Q E st hQ => W.done s Q E (by rw [← hlen]; exact st) hQ
  self := fun i s Q E st hQ => W.self i s Q E st hQ
noncomputable def signs (x : Str) : List PyData := x.cps.toList.map fun c => .str ⟨#[c]⟩
noncomputable def itemsOf (v : V) : Option (List PyData × Fl) := match v.x with
  | .list xs => some (xs, v.fl)
  | .tuple xs => some (xs, v.fl)
  | .str x => some (signs x, .d)
  | _ => none
theorem wfs_signs {x : Str} (h : wf (.str x) = true) : wfs (signs x) = true := by
  rw [wfs_iff]
  intro y hy
  obtain ⟨c, hc, rfl⟩ := List.mem_map.mp hy
  rw [wf_str] at h ⊢
  refine ⟨?_, by show 1 ≤ sizeLine; decide⟩
  have := h.1
  unfold PyData.strOk at this ⊢
  have := Array.all_eq_true'.mp this c (by simpa using hc)
  simpa using this
theorem It.data {tgt e : Expr} {m : Rho → Option V} (h : Ev prog w hb n sc e m) (hf : ∀ (env : Env) x, foldedSetIterable e env x = pure x) : It prog w hb n sc tgt e (fun ρ => (m ρ).bind itemsOf) := by
  refine ⟨hf, ?_⟩
  intro A Hz env s₀ X C ρ O s v Q E hs hA I
  refine bindI fun z0 ha hm hQ => ?_
  obtain ⟨ax, af⟩ := z0
  refine h hs hA I ha fun u s₁ k₁ r₁ => ?_
  obtain ⟨as, ra, ca, oa⟩ := r₁
  have fresh : s.heap.get? s₁.heap.objs.size = none := by
    cases e : s.heap.get? s₁.heap.objs.size with
    | none => rfl
    | some o => exact absurd (Heap.lt_size (keeps_grow k₁ _ _ e)) (Nat.lt_irrefl _)
  unfold itemsOf at hm
  dsimp only at *
  split at hm
  · (have e := si hm; subst e; clear hm)
    obtain ⟨ad, vs, k, bs, q1, q2, a1, a2⟩ := ra.list_inv
    cases q1; cases q2
    · skip
      rw [wf_list] at ca
      refine wpAny_pyIter_list ⟨_, a1, rfl, _, rfl⟩ ?_
      refine hQ _ _ _ [] _ _ (keeps_trans k₁ (keeps_push _ _)) (Stream.list hA.handled tgt _ ad _ bs) ⟨⟨_, Heap.get?_push_size _ rfl, rfl, rfl⟩, (RD.list a1 a2).grow (Grow.push _ _)⟩ oa ca.2 ca.1 fun b hb' => ?_
      rw [List.mem_singleton.mp hb']; exact fresh
  · (have e := si hm; subst e; clear hm)
    cases ra with
    | tuple a1 az a2 =>
      rename_i ad vs k
      rw [wf_tuple] at ca
      refine wpAny_pyIter_tuple ⟨_, a1, rfl, _, rfl⟩ ?_
      refine hQ _ _ _ [] _ _ (keeps_trans k₁ (keeps_push _ _)) (Stream.tuple hA.handled tgt _ ad _ as) ⟨⟨_, Heap.get?_push_size _ rfl, rfl, rfl⟩, (RD.tuple a1 az a2).grow (Grow.push _ _)⟩ oa ca.2 ca.1 fun b hb' => ?_
      rw [List.mem_singleton.mp hb']; exact fresh
  · (have e := si hm; subst e; clear hm)
    cases ra
    rename_i x t
    have hlen : (signs x).length = x.cps.size := by simp [signs]
    have hz : (signs x).length ≤ sizeLine := by rw [hlen]; exact (wf_str.mp ca).2
    have hP : ∀ i v y h, SignAt x i v → (signs x)[i]? = some y → RD prog w Hz h v y [] := by
      intro i v y h hv hy
      obtain ⟨c, u, hc, rfl⟩ := hv
      have e : (signs x)[i]? = some (.str ⟨#[c]⟩) := by simp [signs, hc]
      rw [e] at hy; (have e := si hy; subst e; clear hy)
      exact .str _ _
    have hw : ∀ b ∈ [s₁.heap.objs.size], s.heap.get? b = none := fun b hb' => by rw [List.mem_singleton.mp hb']; exact fresh
    cases hasc : x.cps.all (· < 128)
    · refine wpAny_pyIter_wide hasc (hQ _ [] _ [] _ _ (keeps_trans k₁ (keeps_push _ _)) (Stream.ofWalks (Walks.strWide hA.handled _ x t) hlen hP fun i h st => ?_) ⟨_, Heap.get?_push_size _ rfl, rfl, rfl⟩ FlOk.nil (wfs_signs ca) hz hw)
      obtain ⟨o, ho, hc, hd⟩ := st
      exact ⟨o, _, _, ho, hd, hc, by decide⟩
    · refine wpAny_pyIter_ascii hasc (hQ _ [] _ [] _ _ (keeps_trans k₁ (keeps_push _ _)) (Stream.ofWalks (Walks.strAscii hA.handled _ x t) hlen hP fun i h st => ?_) ⟨_, Heap.get?_push_size _ rfl, rfl, rfl⟩ FlOk.nil (wfs_signs ca) hz hw)
      obtain ⟨o, ho, hc, hd⟩ := st
      exact ⟨o, _, _, ho, hd, hc, by decide⟩
  · exact no hm
noncomputable def putR (x : String) (v : V) (ρ : Rho) : Option Rho := match v.fl with
  | .t => none
  | _ => some (ρ.set x (.val v))
theorem putR_some {ρ ρ' : Rho} {x : String} {v : V} (h : putR x v ρ = some ρ') : (v.fl = .d ∨ v.fl = .s) ∧ ρ' = ρ.set x (.val v) := by
  unfold putR at h
  split at h
  · exact no h
  · rename_i hf
    (have e := si h; subst e; clear h)
    refine ⟨?_, rfl⟩
    cases e : v.fl with
    | d => exact .inl rfl
    | s => exact .inr rfl
    | t => exact absurd e hf
theorem Tg.name {x : String} {pos : Pos} (hv : isVar sc x = true) : Tg prog w hb sc (.Name (Str.ofString x) pos) (putR x) := by
  intro A Hz env s₀ X C ρ ρ' O s u v Q E hs hA I r hm hQ
  obtain ⟨hf, rfl⟩ := putR_some hm
  exact wpAny_assign_Name (I.store (v := .val v) (by rw [hs]; exact hv) ⟨hf, r⟩ fun s' I' T => hQ s' I' T)
noncomputable def putRs : List String → List V → Rho → Option Rho
  | [], [], ρ => some ρ
  | x :: xs, v :: vs, ρ => (putR x v ρ).bind (putRs xs vs)
  | _, _, _ => none
noncomputable def tupOf (v : V) : Option (List V) := match v.x with
  | .tuple xs => some (xs.map fun x => V.fix x v.fl)
  | _ => none
theorem putRs_len : ∀ {xs : List String} {vs : List V} {ρ ρ' : Rho}, putRs xs vs ρ = some ρ' → xs.length = vs.length ∧ ∀ v ∈ vs, v.fl = .d ∨ v.fl = .s
  | [], [], _, _, _ => ⟨rfl, fun _ h => nomatch h⟩
  | [], _ :: _, _, _, h => by simp [putRs] at h
  | _ :: _, [], _, _, h => by simp [putRs] at h
  | x :: xs, v :: vs, ρ, ρ', h => by
    simp only [putRs] at h
    obtain ⟨ρ₁, h1, h2⟩ := bindE h
    obtain ⟨a, b⟩ := putRs_len h2
    refine ⟨by simp [a], fun u hu => ?_⟩
    rcases List.mem_cons.mp hu with rfl | hu
    · exact (putR_some h1).1
    · exact b u hu
theorem Reps.off {s₀ h h' : Heap} {W : List Addr} (k : Off W h h') {us : List Value} {vs : List V} (r : Reps prog w Hz s₀ W h us vs) (hf : ∀ v ∈ vs, v.fl = .d ∨ v.fl = .s) : Reps prog w Hz s₀ W h' us vs := by
  induction r with
  | nil => exact .nil
  | cons a _ ih => exact .cons (a.off k (hf _ (.head _))) (ih fun v hv => hf v (.tail _ hv))
theorem assign_names {A : Around} {env : Env} {s₀ : Shared} {X C : List Addr} {O : List (String × List Addr)} {Q : Unit → Shared → Prop} {E : Value → Shared → Prop} (hs : env.scope = sc) :
    ∀ {xs : List String} {elts : List Expr} {us : List Value} {vs : List V} {ρ ρ' : Rho} {s : Shared}, (∀ x ∈ xs, isVar sc x = true) → elts.length = xs.length → InS prog w Hz hb s₀ X env C ρ O s → Reps prog w Hz s₀.heap (WW env C O) s.heap us vs → putRs xs vs ρ = some ρ' →
    (∀ s', InS prog w Hz hb s₀ X env C ρ' O s' → Step s.heap s'.heap (WW env C O) (WW env C O) → Q () s') →
    wpAny (model prog w) A (assignInOrder ((xs.zipWith (fun x e => (false, PySem.assign (.Name (Str.ofString x) e.pos) env)) elts).map (·.2)) us) Q E s
  | [], [], us, vs, ρ, ρ', s, _, _, I, r, hm, hQ => by
    induction vs with
    | nil => cases r; (have e := si hm; subst e; clear hm); exact wpAny_pure (hQ s I (Step.refl _ _))
    | cons _ _ => simp [putRs] at hm
  | [], _ :: _, _, _, _, _, _, _, h, _, _, _, _ => by simp at h
  | _ :: _, [], _, _, _, _, _, _, h, _, _, _, _ => by simp at h
  | x :: xs, e :: elts, us, vs, ρ, ρ', s, hv, hl, I, r, hm, hQ => by
    cases r with
    | nil => simp [putRs] at hm
    | cons r1 r2 =>
      rename_i u v us vs
      have hfl := (putRs_len hm).2
      simp only [putRs] at hm
      obtain ⟨ρ₁, h1, h2⟩ := bindE hm
      obtain ⟨hf, rfl⟩ := putR_some h1
      refine wpAny_bind (wpAny_holding (wpAny_assign_Name (I.store (v := .val v) (by rw [hs]; exact hv x (.head _)) ⟨hf, r1⟩ fun s₁ I₁ T₁ => ?_)))
      exact assign_names hs (fun y hy => hv y (.tail _ hy)) (by simpa using hl) I₁ (r2.off (T₁.off I.walive) fun v hv => hfl v (.tail _ hv)) h2 fun s' I' T' => hQ s' I' (T₁.trans T')
theorem Tg.tuple {xs : List String} {elts : List Expr} {k : Nat} {pos : Pos} (hv : ∀ x ∈ xs, isVar sc x = true) (hlen : elts.length = xs.length)
    (he : ∀ env : Env, assignEach elts env = xs.zipWith (fun x e => (false, PySem.assign (.Name (Str.ofString x) e.pos) env)) elts) :
    Tg prog w hb sc (.Tuple elts k pos) (fun v ρ => (tupOf v).bind fun vs => putRs xs vs ρ) := by
  intro A Hz env s₀ X C ρ ρ' O s u v Q E hs hA I r
  refine bindI fun vs hvs hm hQ => ?_
  obtain ⟨vx, vf⟩ := v
  obtain ⟨as, ra, ca, oa⟩ := r
  unfold tupOf at hvs
  dsimp only at *
  split at hvs
  · rename_i ys
    (have e := si hvs; subst e; clear hvs)
    cases ra with
    | tuple a1 az a2 =>
      rename_i us kk
      rw [wf_tuple] at ca
      have hl := a2.length
      have hrs : ∀ {us : List Value} {ys : List PyData} {as : List Addr}, RDs prog w Hz s.heap us ys as → wfs ys = true → FlOk s₀.heap (WW env C O) vf as → Reps prog w Hz s₀.heap (WW env C O) s.heap us (ys.map fun x => V.fix x vf) := by
        intro us
        induction us with
        | nil => intro ys as r _ _; cases r; exact .nil
        | cons u us ih =>
          intro ys as r c o
          cases r with
          | cons r1 r2 =>
            simp only [wfs, Bool.and_eq_true] at c
            exact .cons (Rep.fixed r1 c.1 (o.mono fun _ h => List.mem_append_left _ h)) (ih r2 c.2 (o.mono fun _ h => List.mem_append_right _ h))
      have reps := hrs a2 ca.2 oa
      clear hrs
      have hxl : xs.length = us.length := by
        rw [(putRs_len hm).1, reps.length]
      refine wpAny_assign_Tuple hA ⟨_, a1, rfl, _, rfl⟩ (by rw [he]; simp [hlen, hxl]) ?_ fun h' ext => ?_
      · rw [he, List.findIdx?_eq_none_iff]
        intro p hp
        obtain ⟨i, hi, rfl⟩ := List.mem_iff_getElem.mp hp
        simp
      have k' : Keeps s { s with heap := h' } := ⟨h', s.toks, rfl, fun b o e => ext b o (Nat.ne_of_lt (Heap.lt_size e)) e⟩
      have I' := I.grow k'
      have reps' := reps.grow (keeps_grow k')
      rw [he]
      have T₀ : Step s.heap h' (WW env C O) (WW env C O) := Step.of_grow (keeps_grow k')
      exact assign_names hs hv hlen I' reps' hm fun s' I'' T => hQ s' I'' (T₀.trans T)
  · exact no hvs

noncomputable def GName (hb : Heap) (x : String) (v : Value) : Prop :=
  (∃ mg, hb.Ns mainGlobals mg ∧ mg (Str.ofString x) = some v) ∨ (∃ mg mb, hb.Ns mainGlobals mg ∧ mg (Str.ofString x) = none ∧ hb.Ns builtinsNs mb ∧ mb (Str.ofString x) = some v)
noncomputable def isGlob (sc : Scope) (x : String) : Bool := decide (sc.names.lookup (Str.ofString x) = some .globalImplicit) && !(Str.ofString x == ("__debug__" : Str))
theorem eval_glob {A : Around} {env : Env} {s₀ : Shared} {X C : List Addr} {ρ : Rho} {O : List (String × List Addr)} {s : Shared} {E : Value → Shared → Prop} {Q : Value → Shared → Prop} {x : String} {pos : Pos} {v : Value}
    (I : InF prog w Hz hb s₀ X env C ρ O s) (hx : isGlob env.scope x = true) (hg : GName hb x v) (h : Q v s) : wpAny (model prog w) A (eval (.Name (Str.ofString x) pos) env) Q E s := by
  simp only [isGlob, Bool.and_eq_true, decide_eq_true_eq, Bool.not_eq_true'] at hx
  rcases hg with ⟨mg, hm, hv⟩ | ⟨mg, mb, hm, h0, hm', hv⟩
  · exact Name_function_global I.kind hx.1 (loadGlobal_global (by rw [I.glob]; exact hm.keeps I.base.grow) hv h) hx.2
  · exact Name_function_global I.kind hx.1 (loadGlobal_builtin (by rw [I.glob]; exact hm.keeps I.base.grow) h0 (by rw [I.bult]; exact hm'.keeps I.base.grow) hv h) hx.2
theorem Ev.glob {x : String} {pos : Pos} {v : Value} {d : PyData} {as : List Addr} (hx : isGlob sc x = true) (hg : GName hb x v) (hd : RD prog w [] hb v d as) (hw : wf d = true) : Ev prog w hb n sc (.Name (Str.ofString x) pos) (fun _ => some (V.fix d .s)) := by
  intro A Hz env s₀ X C ρ O s v' Q E hs hA I hm hQ
  (have e := si hm; subst e; clear hm)
  refine eval_glob I (by rw [hs]; exact hx) hg (hQ _ _ (keeps_refl s) (Rep.fixed (((lift0 fun z hz => (I.base.hide z hz).1).1 hd).grow I.base.grow) hw fun a ha hq => ?_))
  obtain ⟨o, e⟩ := hd.alive a ha
  rw [(I.wfresh a hq).1] at e; exact no e

noncomputable def Calls (hb : Heap) (f : Value) : Prop := (∃ id, f = .builtin id) ∨ (∃ T, f = .type T) ∨ ∃ a o fd, f = .ref a ∧ hb.get? a = some o ∧ o.data = .func fd
theorem callWith_ok {A : Around} {env : Env} {s : Shared} {E : Value → Shared → Prop} {Q : Value → Shared → Prop} {pos : Pos} {f : Value} {es : List Expr} (hf : Calls hb f)
    (hstar : (backTo pos (starEach es env)).any (·.1) = false)
    (h : wpAny (model prog w) A (spliced (backTo pos (starEach es env))) (fun us s₁ => Grow hb s₁.heap ∧ wpAny (model prog w) A (call f us) Q E s₁) E s) :
    wpAny (model prog w) A (callWith pos f [] (backTo pos (starEach es env)) []) Q E s := by
  have args : wpAny (model prog w) A (evalArgs f true (backTo pos (starEach es env)) []) (fun a s₁ => Grow hb s₁.heap ∧ wpAny (model prog w) A (call f ([] ++ a.pos) a.kw) Q E s₁) E s := by
    generalize backTo pos (starEach es env) = l at hstar h
    induction l with
    | nil =>
      exact fun Γ p hΓ => evalArgs_none (h Γ p hΓ) Γ p hΓ
    | cons p l =>
      obtain ⟨b, t⟩ := p
      simp only [List.any_cons, Bool.or_eq_false_iff] at hstar
      obtain ⟨rfl, _⟩ := hstar
      exact evalArgs_plain h
  rcases hf with ⟨id, rfl⟩ | ⟨T, rfl⟩ | ⟨a, o, fd, rfl, ho, hd⟩
  · exact callWith_builtin hstar (wpAny_mono args (fun a s₁ h₁ => h₁.2) fun _ _ e => e)
  · exact callWith_type hstar (wpAny_mono args (fun a s₁ h₁ => h₁.2) fun _ _ e => e)
  · exact callWith_function (o := o) (fd := fd) (wpAny_mono args (fun a s₁ h₁ => ⟨⟨h₁.1 _ _ ho, hd⟩, h₁.2⟩) fun _ _ e => e)
noncomputable def CallOk (prog : Program) (w : World) (hb : Heap) (n : Nat) (f : Value) (m : List V → Option V) : Prop :=
  ∀ ⦃A : Around⦄ ⦃Hz : List Addr⦄ ⦃env : Env⦄ ⦃s₀ : Shared⦄ ⦃X C : List Addr⦄ ⦃ρ : Rho⦄ ⦃O : List (String × List Addr)⦄ ⦃s : Shared⦄ ⦃us : List Value⦄ ⦃vs : List V⦄ ⦃v : V⦄ ⦃Q : Value → Shared → Prop⦄ ⦃E : Value → Shared → Prop⦄,
    RoomF A n → InF prog w Hz hb s₀ X env C ρ O s → Reps prog w Hz s₀.heap (WW env C O) s.heap us vs → m vs = some v → (∀ u s', Keeps s s' → Rep prog w Hz s₀.heap (WW env C O) s'.heap u v → Q u s') → wpAny (model prog w) A (call f us) Q E s
theorem Ev.call {x : String} {f : Value} {es : List Expr} {np pos : Pos} {ms : Rho → Option (List V)} {m : List V → Option V} (hx : isGlob sc x = true) (hg : GName hb x f) (hf : Calls hb f) (h : Evs prog w hb n sc es ms) (hc : CallOk prog w hb n f m)
    (hstar : ∀ env : Env, (backTo pos (starEach es env)).any (·.1) = false) : Ev prog w hb n sc (.Call (.Name (Str.ofString x) np) es [] pos) (fun ρ => (ms ρ).bind m) := by
  intro A Hz env s₀ X C ρ O s v Q E hs hA I
  refine bindI fun vs hvs hm hQ => ?_
  show wpAny _ _ (eval (.Name (Str.ofString x) np) env >>= fun f => callWith pos f [] (backTo pos (starEach es env)) []) _ _ s
  refine wpAny_bind (eval_glob I (by rw [hs]; exact hx) hg (callWith_ok hf (hstar env) (h hs hA I hvs fun us s₁ k₁ r₁ => ⟨(I.grow k₁).base.grow, ?_⟩)))
  exact hc hA (I.grow k₁) r₁ hm fun u s' k r => hQ u s' (keeps_trans k₁ k) r
theorem CallOk.fn {a : Addr} {m : List PyData → Option PyData} (h : Fn prog w hb n a m) : CallOk prog w hb n (.ref a) (fun vs => (m (vs.map (·.x))).map fun y => ⟨y, .d⟩) := by
  intro A Hz env s₀ X C ρ O s us vs v Q E hA I r hm hQ
  induction mapE hm with | mk y hy => ?_
  obtain ⟨as, rd, c, _⟩ := r.rds
  refine h hA.toRoom I.base rd c hy fun u bs s' k ru cu fr => hQ u s' k ⟨bs, ru, cu, fun a ha => ?_⟩
  exact I.fresh (fr a ha)
theorem Ev.fn {x : String} {a : Addr} {es : List Expr} {np pos : Pos} {ms : Rho → Option (List V)} {m : List PyData → Option PyData} {o : Obj} {fd : FuncData} (hx : isGlob sc x = true) (hg : GName hb x (.ref a)) (ho : hb.get? a = some o) (hd : o.data = .func fd)
    (h : Evs prog w hb n sc es ms) (hc : Fn prog w hb n a m) (hstar : ∀ env : Env, (backTo pos (starEach es env)).any (·.1) = false) :
    Ev prog w hb n sc (.Call (.Name (Str.ofString x) np) es [] pos) (fun ρ => (ms ρ).bind fun vs => (m (vs.map (·.x))).map fun y => ⟨y, .d⟩) :=
  Ev.call hx hg (.inr (.inr ⟨a, o, fd, rfl, ho, hd⟩)) h (CallOk.fn hc) hstar
noncomputable def aLen : PyData → Option PyData
  | .list xs => some (.int xs.length)
  | .tuple xs => some (.int xs.length)
  | .str x => some (.int x.length)
  | .dict kvs => if plainK kvs = true then some (.int kvs.length) else none
  | _ => none
theorem CallOk.len : CallOk prog w hb n (.builtin "len") (fun vs => match vs with | [v] => (aLen v.x).map fun y => ⟨y, .d⟩ | _ => none) := by
  intro A Hz env s₀ X C ρ O s us vs v Q E hA I r hm hQ
  dsimp only at hm
  split at hm
  · rename_i a
    induction mapE hm with | mk y hy => ?_
    obtain ⟨ax, af⟩ := a
    obtain ⟨_, rfl, r1⟩ := r.one_inv
    · skip
      obtain ⟨as, ra, ca, oa⟩ := r1
      have hz := sizeLine_small
      unfold aLen at hy
      dsimp only at *
      split at hy
      · (have e := si hy; subst e; clear hy)
        obtain ⟨_, _, _, _, q1, q2, a1, a2⟩ := ra.list_inv
        cases q1; cases q2
        · skip
          rw [wf_list] at ca
          refine call_len_list ⟨_, a1, rfl, _, rfl⟩ (by simp [a2.length]; lia) ?_
          rw [List.size_toArray, a2.length]
          exact hQ _ _ (keeps_toks s _) Rep.int
      · (have e := si hy; subst e; clear hy)
        cases ra with
        | tuple a1 az a2 =>
          rw [wf_tuple] at ca
          refine P.len_tuple a1 (by simp [a2.length]; lia) ?_
          rw [List.size_toArray, a2.length]
          exact hQ _ _ (keeps_toks s _) Rep.int
      · (have e := si hy; subst e; clear hy)
        cases ra
        rw [wf_str] at ca
        exact P.len_str (by have := ca.2; lia) (hQ _ _ (keeps_toks s _) Rep.int)
      · split at hy
        · rename_i hpk
          (have e := si hy; subst e; clear hy)
          induction ra.dictI hpk with | mk d ks xs es b1 b2 b3 b4 => ?_
          have hl : ks.length = xs.length := by simpa using congrArg List.length b3
          simp only [wf, Bool.and_eq_true, decide_eq_true_eq, List.length_map] at ca
          refine call_len_dict b2 b1 (by rw [hl]; have := ca.1; lia) ?_
          rw [hl, ← List.length_map (as := xs) (f := fun p => ((.str p.1, p.2) : PyData × PyData))]
          exact hQ _ _ (keeps_toks s _) Rep.int
        · exact no hy
      · exact no hy
  · exact no hm

theorem CallOk.list : CallOk prog w hb n (.type "list") (fun vs => match vs with | [v] => (match v.x with | .list xs => some (V.newL xs v.fl) | .tuple xs => some (V.newL xs v.fl) | _ => none) | _ => none) := by
  intro A Hz env s₀ X C ρ O s us vs v Q E hA I r hm hQ
  dsimp only at hm
  split at hm
  · rename_i a
    obtain ⟨ax, af⟩ := a
    obtain ⟨_, rfl, r1⟩ := r.one_inv
    · skip
      obtain ⟨as, ra, ca, oa⟩ := r1
      dsimp only at ra hm ca oa
      have fin : ∀ {us : List Value} {xs : List PyData} {bs : List Addr} {h' : Heap} {c' : Nat}, RDs prog w Hz s.heap us xs bs → wfs xs = true → xs.length ≤ sizeLine → FlOk s₀.heap (WW env C O) af bs → Grow s.heap h' → h'.get? s.heap.objs.size = some (lstObj us c') →
          Rep prog w Hz s₀.heap (WW env C O) h' (.ref s.heap.objs.size) (V.newL xs af) := by
        intro us xs bs h' c' q1 q2 q3 q4 k q5
        have z := I.size_fresh
        refine ⟨s.heap.objs.size :: bs, .list q5 (q1.grow k), wf_list.mpr ⟨q3, q2⟩, ?_⟩
        cases e : flats xs with
        | true =>
          rw [q1.flat_foot e]
          simp only [V.newL, e, if_true]
          intro a ha
          rw [List.mem_singleton.mp ha]; exact z
        | false =>
          simp only [V.newL, e, Bool.false_eq_true, if_false]
          induction af with
          | d => exact fun a ha => (List.mem_cons.mp ha).elim (fun q => q ▸ z) (q4 a)
          | s => exact fun a ha => (List.mem_cons.mp ha).elim (fun q => q ▸ z.2) (q4 a)
          | t => trivial
      split at hm
      · (have e := si hm; subst e; clear hm)
        obtain ⟨_, _, _, _, q1, q2, a1, a2⟩ := ra.list_inv
        cases q1; cases q2
        · skip
          rw [wf_list] at ca
          refine call_list_seq _ (.inl rfl) a1 rfl rfl (fun h' c' k q => ?_) (by simp [a2.length]; exact ca.1)
          exact hQ _ _ ⟨h', s.toks, rfl, k⟩ (fin a2 ca.2 ca.1 (oa.mono fun _ h => .tail _ h) k q)
      · (have e := si hm; subst e; clear hm)
        cases ra with
        | tuple a1 az a2 =>
          rw [wf_tuple] at ca
          refine call_list_seq _ (.inr rfl) a1 rfl rfl (fun h' c' k q => ?_) (by simp [a2.length]; exact ca.1)
          exact hQ _ _ ⟨h', s.toks, rfl, k⟩ (fin a2 ca.2 ca.1 oa k q)
      · exact no hm
  · exact no hm
noncomputable def rangeOf (k : Int) : List PyData := (List.range k.toNat).map fun (i : Nat) => .int (i : Int)
theorem It.range {tgt e : Expr} {np pos : Pos} {m : Rho → Option V} (hx : isGlob sc "range" = true) (hg : GName hb "range" (.type "range")) (h : Ev prog w hb n sc e m) (he : ∀ env, starEach [e] env = [(false, eval e env)]) :
    It prog w hb n sc tgt (.Call (.Name (Str.ofString "range") np) [e] [] pos) (fun ρ => (m ρ).bind fun v => match v.x with | .int k => if -(2 ^ 62) ≤ k ∧ k ≤ sizeLine then some (rangeOf k, .d) else none | _ => none) := by
  refine ⟨fun _ _ => rfl, ?_⟩
  intro A Hz env s₀ X C ρ O s v Q E hs hA I
  refine bindI fun z0 ha hm hQ => ?_
  obtain ⟨ax, af⟩ := z0
  dsimp only at hm
  split at hm
  · rename_i k
    revert hm
    refine ifI fun hk hm => ?_
    · (have e := si hm; subst e; clear hm)
      show wpAny _ _ (eval (.Name (Str.ofString "range") np) env >>= fun f => callWith pos f [] (backTo pos (starEach [e] env)) []) _ _ s
      refine wpAny_bind (eval_glob I (by rw [hs]; exact hx) hg (callWith_ok (hb := hb) (.inr (.inl ⟨_, rfl⟩)) (by rw [he]; rfl) (wpAny_items_cons (h hs hA I ha fun u s₁ k₁ r₁ => wpAny_items_nil ⟨(I.grow k₁).base.grow, ?_⟩) (he env))))
      obtain ⟨as, ra, ca, oa⟩ := r₁
      dsimp only at ra
      cases ra
      refine call_range_1 (wpAny_pyIter_range (IsRange.new _ _ _ _ _ _ _) (small_one (by decide) (by decide) (by lia) (Int.lt_of_le_of_lt hk.2 (by decide))) ?_)
      have hsz : Builtin.Range.rangeSize 0 k 1 = (k.toNat : Int) := by
        rw [rangeSize_one]
        split <;> lia
      have hlen : (rangeOf k).length = k.toNat := by simp [rangeOf]
      have fresh : ∀ d, s.heap.get? (s₁.heap.objs.size + d) = none := fun d => by
        cases e : s.heap.get? (s₁.heap.objs.size + d) with
        | none => rfl
        | some o =>
          exact absurd (Heap.lt_size (keeps_grow k₁ _ _ e)) (Nat.not_lt.mpr (Nat.le_add_right _ _))
      refine hQ _ [] _ [] _ _ (keeps_trans k₁ ⟨_, _, rfl, Grow.trans (Grow.push _ _) (Grow.push _ _)⟩) (Stream.ofWalks (Walks.range hA.handled _ 0 1 k.toNat) hlen (fun i v x h hv hx => ?_) fun i h st => ⟨_, _, _, st, rfl, rfl, by decide⟩) ?_ FlOk.nil ?_ ?_ fun b hb' => ?_
      · obtain ⟨t, rfl⟩ := hv
        have hi : i < k.toNat := by rw [← hlen]; exact (List.getElem?_eq_some_iff.mp hx).1
        simp only [rangeOf, List.getElem?_map, List.getElem?_range hi, Option.map_some, Option.some.injEq] at hx
        subst hx
        have e : (0 : Int) + (i : Int) * 1 = i := by lia
        rw [e]
        exact .int _ _
      · show IsRangeIter _ _ _ _ _
        rw [hsz]
        refine Eq.trans (Heap.get?_push_size _ ?_) ?_
        · rfl
        · simp
      · rw [wfs_iff]
        intro y hy
        obtain ⟨i, _, rfl⟩ := List.mem_map.mp hy
        rfl
      · rw [hlen]; lia
      · rw [List.mem_singleton.mp hb']
        have := fresh 1
        simpa using this
  · exact no hm
theorem lookup_zip {α β : Type} [BEq α] [LawfulBEq α] : ∀ {ns : List α} {us : List β}, ns.length = us.length → ∀ n ∈ ns, ((ns.zip us).lookup n).isSome = true
  | [], _, _, _, h => nomatch h
  | a :: ns, [], h, _, _ => by simp at h
  | a :: ns, u :: us, h, n, hn => by
    simp only [List.zip_cons_cons, List.lookup_cons]
    cases e : n == a with
    | true => rfl
    | false =>
      rcases List.mem_cons.mp hn with rfl | hn
      · simp at e
      · exact lookup_zip (by simpa using h) n hn
theorem filterMap_zip {α β : Type} [BEq α] [LawfulBEq α] {l : List (α × β)} : ∀ {ns : List α} {us : List β}, ns.length = us.length → ns.Nodup → (∀ n ∈ ns, l.lookup n = (ns.zip us).lookup n) → ns.filterMap (fun n => (l.lookup n).map (n, ·)) = ns.zip us
  | [], _, _, _, _ => rfl
  | a :: ns, [], h, _, _ => by simp at h
  | a :: ns, u :: us, h, hn, hl => by
    rw [List.nodup_cons] at hn
    have h0 := hl a (.head _)
    simp only [List.zip_cons_cons, List.lookup_cons, beq_self_eq_true] at h0
    rw [List.filterMap_cons, h0]
    simp only [Option.map_some, List.zip_cons_cons]
    congr 1
    refine filterMap_zip (by simpa using h) hn.2 fun n hm => ?_
    have h1 := hl n (.tail _ hm)
    have : (n == a) = false := by
      cases e : n == a with
      | false => rfl
      | true => rw [eq_of_beq e] at hm; exact absurd hm hn.1
    simp only [List.zip_cons_cons, List.lookup_cons, this] at h1
    exact h1
theorem ite_skip {α : Type} {c : Prop} {d : Decidable c} {X Y r : Sem α} (h : ¬ c) (k : Y = r) : (@ite _ c d X Y) = r := (if_neg h).trans k
theorem bind_plain {fd : FuncData} {ps : List Arg} (hp : fd.params = ⟨[], ps, none, [], [], none, []⟩) (hd : fd.defaults = .none) {us : List Value} (hl : ps.length = us.length) (hn : (ps.map (·.arg)).Nodup) :
    bindArgs fd ⟨us, []⟩ = pure ((ps.map (·.arg)).zip us) := by
  have h2 := filterMap_zip (ns := ps.map Arg.arg) (us := us) (l := (ps.map Arg.arg).zip us) (by rw [List.length_map]; exact hl) hn (fun _ _ => rfl)
  have h3 : (ps.map Arg.arg).filter (fun n => (((ps.map Arg.arg).zip us).lookup n).isNone) = [] := by
    rw [List.filter_eq_nil_iff]
    intro n hm
    have := lookup_zip (ns := ps.map Arg.arg) (us := us) (by rw [List.length_map]; exact hl) n hm
    rw [Option.isNone_iff_eq_none]
    intro e
    rw [e] at this; exact Bool.false_ne_true this
  clear hn
  obtain ⟨f1, f2, f3, f4, f5, f6, f7, f8, f9, f10, f11, f12, f13, f14, f15⟩ := fd
  subst hp
  subst hd
  refine ite_skip (c := (decide (us.length > ([] ++ ps.map Arg.arg).length) && (none : Option Arg).isNone) = true) ?_ ?_
  · rw [List.nil_append, List.length_map, hl, decide_eq_false (Nat.lt_irrefl _)]; exact Bool.false_ne_true
  have hz : ∀ i, List.drop i ((none : Option (Array Value)).getD #[]).toList = [] := fun i => List.drop_nil
  rw [hz]
  refine ite_skip ?_ ?_
  · show ¬ (!((List.take ([] ++ ps.map Arg.arg).length ([] ++ ps.map Arg.arg)).filter fun n => ((([] ++ ps.map Arg.arg).zip us).lookup n).isNone).isEmpty) = true
    rw [List.nil_append, List.take_length, h3]; exact Bool.false_ne_true
  rw [List.zip_nil_right]
  refine congrArg (fun l => (pure l : Sem (List (Str × Value)))) (a₁ := List.filterMap (fun n => Option.map (fun x => (n, x)) (List.lookup n (([] ++ ps.map Arg.arg).zip us))) (([] ++ ps.map Arg.arg) ++ [])) ?_
  rw [List.append_nil]; exact h2
noncomputable def rho0 : List String → List PyData → Rho
  | p :: ps, x :: xs => fun y => bif y == p then some (.val (V.fix x .s)) else rho0 ps xs y
  | _, _ => fun _ => none
theorem rho0_eq : ∀ (ps : List String) (xs : List PyData) (y : String), rho0 ps xs y = ((ps.zip xs).lookup y).map fun x => .val (V.fix x .s)
  | [], _, _ => by cases ‹List PyData› <;> rfl
  | _ :: _, [], _ => rfl
  | p :: ps, x :: xs, y => by
    show (bif y == p then _ else rho0 ps xs y) = _
    rw [rho0_eq ps xs y, List.zip_cons_cons, List.lookup_cons]
    cases y == p <;> rfl
noncomputable def outOf : Out → Option PyData
  | .ret y => some y
  | .next _ => some .none
  | _ => none
theorem bindL_other {k : Str → Option NameKind} {y : Str} : ∀ {binds : List (Str × Value)} {m : Str → Option Value}, (∀ p ∈ binds, p.1 ≠ y) → bindL k binds m y = m y
  | [], _, _ => rfl
  | (a, v) :: r, m, h => by
    rw [bindL, bindL_other fun p hp => h p (.tail _ hp)]
    split
    · exact if_neg fun e => h _ (.head _) e.symm
    · rfl
theorem bindC_other {k : Str → Option NameKind} {y : Str} : ∀ {binds : List (Str × Value)} {m : Str → Option Value}, (∀ p ∈ binds, p.1 ≠ y) → bindC k binds m y = m y
  | [], _, _ => rfl
  | (a, v) :: r, m, h => by
    rw [bindC, bindC_other fun p hp => h p (.tail _ hp)]
    split
    · rfl
    · exact if_neg fun e => h _ (.head _) e.symm
theorem zip_names {ps : List String} {us : List Value} {y : String} (h : y ∉ ps) : ∀ p ∈ (ps.map Str.ofString).zip us, p.1 ≠ Str.ofString y := by
  intro p hp e
  have := (List.of_mem_zip hp).1
  obtain ⟨z, hz, q⟩ := List.mem_map.mp this
  rw [← q] at e
  exact h (ofString_inj e ▸ hz)
variable (prog w Hz) in
inductive BindAt (k : Str → Option NameKind) (h : Heap) (ps : List String) (us : List Value) (xs : List PyData) (as : List Addr) (m c : Str → Option Value) (y : String) (x : PyData) : Prop
  | mk (u : Value) (bs : List Addr) (h1 : RD prog w Hz h u x bs) (h2 : ∀ b ∈ bs, b ∈ as) (h3 : x ∈ xs) (h4 : k (Str.ofString y) = some .local → bindL k ((ps.map Str.ofString).zip us) m (Str.ofString y) = some u) (h5 : k (Str.ofString y) ≠ some .local → bindC k ((ps.map Str.ofString).zip us) c (Str.ofString y) = some u) : BindAt k h ps us xs as m c y x
theorem bind_at {k : Str → Option NameKind} {h : Heap} {ps : List String} {us : List Value} {xs : List PyData} {as : List Addr} {m c : Str → Option Value} (hn : ps.Nodup) (r : RDs prog w Hz h us xs as) {y : String} {x : PyData} (e : (ps.zip xs).lookup y = some x) : BindAt prog w Hz k h ps us xs as m c y x := by
  refine RDs.ind (R := fun us xs as => ∀ {ps : List String} {m c : Str → Option Value}, ps.Nodup → (ps.zip xs).lookup y = some x → BindAt prog w Hz k h ps us xs as m c y x) (fun {ps m c} hn e => ?_) (fun {u us d ds as bs} r rs ih ps m c hn e => ?_) r hn e
  · rw [List.zip_nil_right] at e; exact no e
  induction ps with
  | nil => exact no e
  | cons p ps =>
    rw [List.nodup_cons] at hn
    simp only [List.zip_cons_cons, List.lookup_cons] at e
    by_cases hy : y = p
    · subst hy
      simp only [beq_self_eq_true] at e
      (have e := si e; subst e; clear e)
      refine ⟨u, as, r, fun b hb' => List.mem_append_left _ hb', .head _, fun hk => ?_, fun hk => ?_⟩
      · rw [List.map_cons, List.zip_cons_cons, bindL, bindL_other (zip_names hn.1), if_pos hk]; exact if_pos rfl
      · rw [List.map_cons, List.zip_cons_cons, bindC, bindC_other (zip_names hn.1), if_neg hk]; exact if_pos rfl
    · have hyp : (y == p) = false := by simpa using hy
      rw [hyp] at e
      obtain ⟨u', bs', q1, q2, q3, q4, q5⟩ := ih hn.2 e
      exact ⟨u', bs', q1, fun b hb' => List.mem_append_right _ (q2 b hb'), .tail _ q3, q4, q5⟩
noncomputable def cellsOnce (sc : Scope) : Bool := decide ((cellsFrom 0 sc.names []).map (·.1)).Nodup

theorem cells_some {x : Str} : ∀ (names : List (Str × NameKind)) (k : Nat) (acc : List (Str × Addr)), names.lookup x = some .cell ∨ (acc.lookup x).isSome = true → ((cellsFrom k names acc).lookup x).isSome = true
  | [], _, _, h => h.elim (fun e => by exact no e) id
  | (y, kd) :: r, k, acc, h => by
    unfold cellsFrom
    by_cases hk : (kd == .cell) = true
    · rw [if_pos hk]
      refine cells_some r (k + 1) ((y, k) :: acc) ?_
      by_cases hy : (x == y) = true
      · exact .inr (by rw [List.lookup_cons, hy]; rfl)
      · have hy' : (x == y) = false := by simpa using hy
        refine h.imp (fun e => ?_) fun e => ?_
        · rw [List.lookup_cons, hy'] at e; exact e
        · rw [List.lookup_cons, hy']; exact e
    · rw [if_neg hk]
      refine cells_some r k acc ?_
      by_cases hy : (x == y) = true
      · refine .inr (h.elim (fun e => ?_) id)
        rw [List.lookup_cons, hy] at e
        exact absurd (by rw [Option.some.inj e]; rfl) hk
      · have hy' : (x == y) = false := by simpa using hy
        refine h.imp (fun e => ?_) id
        rw [List.lookup_cons, hy'] at e; exact e
theorem isVar_kinds {x : String} (h : isVar sc x = true) : sc.names.lookup (Str.ofString x) = some .local ∨ sc.names.lookup (Str.ofString x) = some .cell := by
  simp only [isVar, Bool.and_eq_true, Bool.or_eq_true, decide_eq_true_eq] at h
  exact h.1
theorem pairwise_inj {cs : List (Str × Addr)} (h : cs.Pairwise fun x y => x.2 ≠ y.2) {x y : Str} {c : Addr} (hx : (x, c) ∈ cs) (hy : (y, c) ∈ cs) : x = y := by
  induction cs with
  | nil => cases hx
  | cons p cs ih =>
    rw [List.pairwise_cons] at h
    rcases List.mem_cons.mp hx with e1 | m1 <;> rcases List.mem_cons.mp hy with e2 | m2
    · rw [← e1] at e2; exact (congrArg Prod.fst e2).symm
    · exact absurd (by rw [← e1]) (h.1 _ m2)
    · exact absurd (by rw [← e2]) (h.1 _ m1)
    · exact ih h.2 m1 m2
theorem InS.start {s s' : Shared} {env : Env} {ps : List String} {us : List Value} {xs : List PyData} {as : List Addr} (b : Base prog Hz hb s.heap) (hsc : env.scope = sc) (hk : sc.kind = .function) (hg : env.globals = mainGlobals) (hbu : env.builtins = builtinsNs)
    (hcells : env.cells = cellsFrom (env.locals + 1) sc.names []) (honce : cellsOnce sc = true) (hnd : ps.Nodup) (rd : RDs prog w Hz s.heap us xs as) (hw : wfs xs = true)
    (x : InCallC s env.locals (bindL env.kindOf ((ps.map Str.ofString).zip us) fun _ => none) env.cells (bindC env.kindOf ((ps.map Str.ofString).zip us) fun _ => none) s') :
    InS prog w Hz hb s [] env (env.cells.map (·.2)) (rho0 ps xs) [] s' := by
  have keep := x.toInCall.keep
  have hL : s.heap.get? env.locals = none := get?_size_none _ x.toInCall.fresh
  have hC : ∀ c ∈ env.cells.map (·.2), s.heap.get? c = none ∧ env.locals < c := by
    intro c hc
    obtain ⟨⟨nm, c'⟩, hm, rfl⟩ := List.mem_map.mp hc
    have := x.above nm c' hm
    exact ⟨get?_size_none _ (Nat.le_trans x.toInCall.fresh (Nat.le_of_lt this)), this⟩
  have honce' : (env.cells.map (·.1)).Nodup := by
    rw [hcells, PyProof.Rows.cellsFrom_names sc.names (env.locals + 1) 0 [] [] rfl]
    exact of_decide_eq_true honce
  have hcell : ∀ c ∈ env.cells.map (·.2), ∃ v, s'.heap.IsCell c v := by
    intro c hc
    obtain ⟨⟨nm, c'⟩, hm, rfl⟩ := List.mem_map.mp hc
    exact ⟨_, x.cell nm c' (PyProof.Rows.lookup_of_mem_nodup honce' hm)⟩
  have hWW : ∀ a, a ∈ WW env (env.cells.map (·.2)) [] ↔ a = env.locals ∨ a ∈ env.cells.map (·.2) := by
    intro a; simp [WW]
  have foot : ∀ {u : Value} {d : PyData} {bs : List Addr}, RD prog w Hz s.heap u d bs → wf d = true → Rep prog w Hz s.heap (WW env (env.cells.map (·.2)) []) s'.heap u (V.fix d .s) := by
    intro u d bs r c
    refine Rep.fixed (r.grow keep) c fun a ha hq => ?_
    obtain ⟨o, e⟩ := r.alive a ha
    rcases (hWW a).mp hq with q | q
    · rw [q, hL] at e; exact no e
    · rw [(hC a q).1] at e; cases e
  have vars : ∀ y vv, rho0 ps xs y = some vv → ∃ u, RepVV prog w Hz s.heap (WW env (env.cells.map (·.2)) []) [] s'.heap y u vv ∧
      (env.kindOf (Str.ofString y) = some .local → bindL env.kindOf ((ps.map Str.ofString).zip us) (fun _ => none) (Str.ofString y) = some u) ∧ (env.kindOf (Str.ofString y) ≠ some .local → bindC env.kindOf ((ps.map Str.ofString).zip us) (fun _ => none) (Str.ofString y) = some u) := by
    intro y vv e
    rw [rho0_eq] at e
    induction mapE e with | mk d hd => ?_
    obtain ⟨u, bs, q1, q2, q3, q4, q5⟩ := bind_at (k := env.kindOf) (m := fun _ => none) (c := fun _ => none) hnd rd hd
    refine ⟨u, ⟨?_, foot q1 ((wfs_iff _).mp hw _ q3)⟩, q4, q5⟩
    unfold V.fix
    split
    · exact .inl rfl
    · exact .inr rfl
  refine ⟨⟨x.toInCall.same, b.trans keep, fun b o e _ => keep b o e, fun b o e => ⟨o, keep b o e⟩, fun a ha => ?_, fun a ha => ?_, ?_, by rw [hsc]; exact hk, hg, hbu, fun y e => ?_, ⟨_, x.toInCall.ns, fun y vv e1 e2 => ?_⟩, fun y vv e1 e2 => ?_⟩, fun y e => ?_, fun y z c h1 h2 => ?_, fun y c hc => have hm : c ∈ env.cells.map (·.2) := List.mem_map.mpr ⟨_, lookup_mem hc, rfl⟩; ⟨hm, hcell c hm⟩⟩
  · rcases (hWW a).mp ha with rfl | ha
    · obtain ⟨o, es, ep, ho, hd, _⟩ := x.toInCall.ns
      exact ⟨o, ho, fun ⟨_, _, q⟩ => by rw [q] at hd; cases hd⟩
    · obtain ⟨v, o, ho, hd⟩ := hcell a ha
      exact ⟨o, ho, fun ⟨_, _, q⟩ => by rw [q] at hd; cases hd⟩
  · have h0 : s.heap.get? a = none := by
      rcases (hWW a).mp ha with rfl | ha
      · exact hL
      · exact (hC a ha).1
    refine ⟨?_, fun _ => h0⟩
    cases e : hb.get? a with
    | none => rfl
    | some o => rw [b.grow _ _ e] at h0; cases h0
  · simp only [WW, List.flatMap_nil, List.append_nil, List.nodup_cons]
    refine ⟨fun hm => Nat.lt_irrefl _ (hC _ hm).2, ?_⟩
    have := x.apart
    rw [List.Nodup, List.pairwise_map]
    exact this
  · have hs : (env.cells.lookup y).isSome = true := by
      rw [hcells]
      exact cells_some _ _ _ (.inl (by rw [← hsc]; exact e))
    exact Option.isSome_iff_exists.mp hs
  · obtain ⟨u, r, q1, _⟩ := vars y vv e1
    exact ⟨u, q1 e2, r⟩
  · obtain ⟨u, r, _, q2⟩ := vars y vv e1
    have hs : (env.cells.lookup (Str.ofString y)).isSome = true := by
      rw [hcells]
      exact cells_some _ _ _ (.inl (by rw [← hsc]; exact e2))
    obtain ⟨c, hc⟩ := Option.isSome_iff_exists.mp hs
    refine ⟨c, u, hc, ?_, r⟩
    have := x.cell _ c hc
    rw [q2 (by rw [e2]; simp)] at this
    exact this
  · have hs : (env.cells.lookup (Str.ofString y)).isSome = true := by
      rw [hcells]
      exact cells_some _ _ _ (.inl (by rw [← hsc]; exact e))
    obtain ⟨c, hc⟩ := Option.isSome_iff_exists.mp hs
    exact ⟨c, hc, List.mem_map.mpr ⟨_, lookup_mem hc, rfl⟩⟩
  · exact pairwise_inj x.apart (lookup_mem h1) (lookup_mem h2)
structure DefOk (hb : Heap) (f : Addr) (sc : Scope) (ps : List String) (body : List Stmt) : Prop where
  there : ∃ fo fd args, hb.get? f = some fo ∧ fo.data = .func fd ∧ fd.params = ⟨[], args, none, [], [], none, []⟩ ∧ args.map (·.arg) = ps.map Str.ofString ∧ fd.body = .stmts body ∧ fd.scope = sc ∧ fd.closure = [] ∧ fd.defaults = .none ∧
    fd.globals = mainGlobals ∧ fd.builtins = builtinsNs ∧ hb.CodeRec fd.code fd.qualname
  kind : sc.kind = .function
  gen : sc.isGenerator = false
  co : sc.isCoroutine = false
  once : cellsOnce sc = true
  names : ps.Nodup
  vars : ∀ x ∈ ps, isVar sc x = true
noncomputable def fnD (ps : List String) (m : Rho → Option Out) (xs : List PyData) : Option PyData := if xs.length = ps.length then (m (rho0 ps xs)).bind outOf else none
theorem Fn.def {f : Addr} {ps : List String} {body : List Stmt} {m : Rho → Option Out} (D : DefOk hb f sc ps body) (h : St prog w hb n sc body m) : Fn prog w hb (n + 1) f (fnD ps m) := by
  intro A Hz s us xs as y Q E hA b rd hw hm hQ
  obtain ⟨fo, fd, args, ho, hd, hp, hnm, hbd, hsc, hcl, hdf, hgl, hbu, hcr⟩ := D.there
  unfold fnD at hm
  split at hm
  · rename_i hlen
    obtain ⟨o, ho', hy⟩ := bindE hm
    have hps : args.length = ps.length := by simpa using congrArg List.length hnm
    have hul : args.length = us.length := by rw [hps, rd.length, hlen]
    have hnames : (args.map (·.arg)).Nodup := by
      rw [hnm]
      rw [List.Nodup, List.pairwise_map]
      exact D.names.imp fun h e => h (ofString_inj e)
    refine wpAny_call (codeAny_call_function (fd := fd) (body := body) (by have := hA.depth; lia) (b.grow _ _ ho) hd (by rw [hsc]; exact D.co) (by rw [hsc]; exact D.gen) hbd (hcr.keeps b.grow) ?_)
    rw [bind_plain hp hdf hul hnames, hnm, hsc, hgl, hcl, hbu]
    refine wpAny_pure (wpAny_newFunctionEnv_cells D.kind (fun z hz => ?_) fun env he s' x => ?_)
    · have := (List.of_mem_zip hz).1
      obtain ⟨p, hp', e⟩ := List.mem_map.mp this
      rw [← e]
      refine (isVar_kinds (D.vars p hp')).imp id fun q => ⟨q, cells_some _ _ _ (.inl q)⟩
    · have e1 : env.scope = sc := by rw [he]; rfl
      have e2 : env.globals = mainGlobals := by rw [he]; rfl
      have e3 : env.builtins = builtinsNs := by rw [he]; rfl
      have e4 : env.cells = cellsFrom (env.locals + 1) sc.names [] := by rw [he]; rfl
      have I := InS.start (w := w) b e1 D.kind e2 e3 e4 D.once D.names rd hw x
      refine ⟨I.base.nolimit, codeAny_func ?_⟩
      have pe : PlainEnv env := ⟨by rw [e1]; exact D.gen, by rw [e1]; exact D.co, e3, e2⟩
      refine h e1 (hA.deeper pe) I ho' ?_
      have keeps : ∀ {ρ : Rho} {O' : List (String × List Addr)} {s'' : Shared}, InS prog w Hz hb s [] env (env.cells.map (·.2)) ρ O' s'' → Keeps s s'' := by
        intro ρ O' s'' J
        obtain ⟨h', tk, e⟩ := J.same
        exact ⟨h', tk, e, fun b o eb => by have := J.keep b o eb (by simp); rw [e] at this; exact this⟩
      induction o with
      | next ρ =>
        (have e := si hy; subst e; clear hy)
        intro O' s'' J _
        exact hQ .none [] s'' (keeps J) .none rfl fun _ q => nomatch q
      | ret z =>
        (have e := si hy; subst e; clear hy)
        intro u as' O' ρ s'' J ru cu fr
        exact hQ u as' s'' (keeps J) ru cu fun a ha => (fr a ha).elim (fun q => nomatch q) id
      | brk ρ => exact no hy
      | cont ρ => exact no hy
      | retT z ρ => exact no hy
  · exact no hm


noncomputable def relS (scope sc : Scope) : Scope :=
  { scope with names := scope.names.map fun (x, k) => if (k == .free && sc.kind == .function && sc.names.lookup x == some .cell) then (x, .cell) else (x, k) }
theorem relabel_eq (scope : Scope) (env : Env) : relabel scope env = relS scope env.scope := rfl
noncomputable def clos (cells : List (Str × Addr)) : List (Str × NameKind) → List (Str × Addr) → List (Str × Addr)
  | [], acc => acc
  | (x, k) :: r, acc => if k == .free then clos cells r ((x, (cells.lookup x).getD 0) :: acc) else clos cells r acc
theorem closureFor_clos {scope : Scope} {env : Env} (h : ∀ p ∈ scope.names, p.2 = .free → ∃ c, env.cells.lookup p.1 = some c) : closureFor scope env = pure (clos env.cells scope.names []) := by
  unfold closureFor
  have key : ∀ (l : List (Str × NameKind)) (acc : List (Str × Addr)), (∀ p ∈ l, p.2 = .free → ∃ c, env.cells.lookup p.1 = some c) →
      (forIn l acc fun (p : Str × NameKind) (cs : List (Str × Addr)) => (if (p.2 == NameKind.free) = true then do
          let a ← cellOf env p.1
          pure (ForInStep.yield ((p.1, a) :: cs))
        else pure (ForInStep.yield cs) : Sem (ForInStep (List (Str × Addr))))) = pure (clos env.cells l acc) := by
    intro l
    induction l with
    | nil => intro acc _; rfl
    | cons p l ih =>
      intro acc h
      obtain ⟨x, k⟩ := p
      rw [List.forIn_cons]
      by_cases hk : (k == NameKind.free) = true
      · obtain ⟨c, hc⟩ := h (x, k) (.head _) (by simpa using hk)
        simp only [hk, if_true, clos]
        have e : cellOf env x = pure c := by unfold cellOf; rw [hc]
        simp only [e, pure_bind, hc, Option.getD_some]
        exact ih _ fun p hp => h p (.tail _ hp)
      · simp only [hk, Bool.false_eq_true, if_false, clos, pure_bind]
        exact ih _ fun p hp => h p (.tail _ hp)
  have := key scope.names [] h
  simpa using this
theorem clos_lookup {cells : List (Str × Addr)} {x : Str} {c : Addr} (hc : cells.lookup x = some c) : ∀ (names : List (Str × NameKind)) (acc : List (Str × Addr)), (acc.lookup x = none ∨ acc.lookup x = some c) → ((x, NameKind.free) ∈ names ∨ acc.lookup x = some c) → (clos cells names acc).lookup x = some c
  | [], acc, _, h => h.elim (fun q => nomatch q) id
  | (y, k) :: r, acc, h0, h => by
    unfold clos
    by_cases hk : (k == NameKind.free) = true
    · rw [if_pos hk]
      by_cases hy : x = y
      · subst hy
        have e : ((x, (cells.lookup x).getD 0) :: acc).lookup x = some c := by rw [List.lookup_cons, beq_self_eq_true, hc]; rfl
        exact clos_lookup hc r _ (.inr e) (.inr e)
      · have e : ((y, (cells.lookup y).getD 0) :: acc).lookup x = acc.lookup x := by
          rw [List.lookup_cons]
          have : (x == y) = false := by simpa using hy
          rw [this]
        refine clos_lookup hc r _ (by rw [e]; exact h0) ?_
        rw [e]
        refine h.imp (fun q => ?_) id
        rcases List.mem_cons.mp q with q | q
        · exact absurd (congrArg Prod.fst q) hy
        · exact q
    · rw [if_neg hk]
      refine clos_lookup hc r acc h0 (h.imp (fun q => ?_) id)
      rcases List.mem_cons.mp q with q | q
      · have := congrArg Prod.snd q
        simp only at this
        rw [← this] at hk
        exact absurd rfl hk
      · exact q
structure CompOk (scope sc : Scope) (locs : List String) : Prop where
  kind : scope.kind = .function
  nocell : ∀ p ∈ scope.names, p.2 ≠ .cell
  free : ∀ p ∈ scope.names, p.2 = .free → sc.names.lookup p.1 = some .cell
  locs : ∀ p ∈ scope.names, p.2 = .local → scope.names.lookup p.1 = some .local ∧ p.1 ∈ locs.map Str.ofString
noncomputable def compOk (scope sc : Scope) (locs : List String) : Bool :=
  decide (scope.kind = .function) && scope.names.all (fun p => decide (p.2 ≠ .cell) && (decide (p.2 ≠ .free) || decide (sc.names.lookup p.1 = some .cell)) && (decide (p.2 ≠ .local) || (decide (scope.names.lookup p.1 = some .local) && (locs.map Str.ofString).contains p.1)))
theorem CompOk.of {scope sc : Scope} {locs : List String} (h : compOk scope sc locs = true) : CompOk scope sc locs := by
  simp only [compOk, Bool.and_eq_true, List.all_eq_true, decide_eq_true_eq, Bool.or_eq_true] at h
  refine ⟨h.1, fun p hp => (h.2 p hp).1.1, fun p hp e => (h.2 p hp).1.2.resolve_left (fun q => q e), fun p hp e => ?_⟩
  obtain ⟨a, b⟩ := (h.2 p hp).2.resolve_left (fun q => q e)
  exact ⟨a, by simpa using b⟩
theorem relS_cell {scope : Scope} {x : Str} (hn : ∀ p ∈ scope.names, p.2 ≠ .cell) (h : (relS scope sc).names.lookup x = some .cell) : (x, NameKind.free) ∈ scope.names ∧ sc.names.lookup x = some .cell := by
  unfold relS at h
  simp only at h
  have key : ∀ (l : List (Str × NameKind)), (∀ p ∈ l, p.2 ≠ .cell) → (l.map fun (x, k) => if (k == NameKind.free && sc.kind == .function && sc.names.lookup x == some .cell) then (x, NameKind.cell) else (x, k)).lookup x = some .cell → (x, NameKind.free) ∈ l ∧ sc.names.lookup x = some .cell := by
    intro l
    induction l with
    | nil => intro _ h; exact no h
    | cons p l ih =>
      obtain ⟨y, k⟩ := p
      intro hn h
      rw [List.map_cons] at h
      by_cases hc : (k == NameKind.free && sc.kind == .function && sc.names.lookup y == some .cell) = true
      · simp only [hc, if_true, List.lookup_cons] at h
        split at h
        · rename_i e
          have e := eq_of_beq e
          subst e
          simp only [Bool.and_eq_true, beq_iff_eq] at hc
          exact ⟨by rw [hc.1.1]; exact .head _, hc.2⟩
        · obtain ⟨a, b⟩ := ih (fun p hp => hn p (.tail _ hp)) h
          exact ⟨.tail _ a, b⟩
      · simp only [hc, Bool.false_eq_true, if_false, List.lookup_cons] at h
        split at h
        · (have e := si h; subst e; clear h); exact absurd rfl (hn _ (.head _))
        · obtain ⟨a, b⟩ := ih (fun p hp => hn p (.tail _ hp)) h
          exact ⟨.tail _ a, b⟩
  exact key _ hn h
theorem relS_local {scope : Scope} {x : Str} (h : (relS scope sc).names.lookup x = some .local) : (x, NameKind.local) ∈ scope.names := by
  unfold relS at h
  simp only at h
  have key : ∀ (l : List (Str × NameKind)), (l.map fun (x, k) => if (k == NameKind.free && sc.kind == .function && sc.names.lookup x == some .cell) then (x, NameKind.cell) else (x, k)).lookup x = some .local → (x, NameKind.local) ∈ l := by
    intro l
    induction l with
    | nil => intro h; exact no h
    | cons p l ih =>
      obtain ⟨y, k⟩ := p
      intro h
      rw [List.map_cons] at h
      by_cases hc : (k == NameKind.free && sc.kind == .function && sc.names.lookup y == some .cell) = true
      · simp only [hc, if_true, List.lookup_cons] at h
        split at h
        · cases h
        · exact .tail _ (ih h)
      · simp only [hc, Bool.false_eq_true, if_false, List.lookup_cons] at h
        split at h
        · rename_i e
          have e := eq_of_beq e
          (have e := si h; subst e; clear h)
          rw [e]; exact .head _
        · exact .tail _ (ih h)
  exact key _ h
noncomputable def memS : List String → String → Bool
  | [], _ => false
  | s :: l, t => (t == s) || memS l t
theorem memS_nil {t : String} : memS [] t = false := rfl
theorem memS_cons {s t : String} {l : List String} : memS (s :: l) t = ((t == s) || memS l t) := rfl
theorem memS_mem {t : String} : ∀ {l : List String}, memS l t = false → t ∉ l
  | [], _, h => nomatch h
  | s :: l, e, h => by
    simp only [memS, Bool.or_eq_false_iff, beq_eq_false_iff_ne] at e
    rcases List.mem_cons.mp h with h | h
    · exact e.1 h
    · exact memS_mem e.2 h
noncomputable def inComp (locs : List String) (ρ : Rho) : Rho := fun x => bif memS locs x then none else (ρ x).bind fun vv => (rdVar vv).map fun v => .val (V.fix v.x .s)
section
variable {s₀ s : Shared} {X : List Addr} {env : Env} {C : List Addr} {ρ : Rho} {O : List (String × List Addr)}
theorem InF.setL (I : InF prog w Hz hb s₀ X env C ρ O s) {x : String} {u : Value} {v : VV} {m : Str → Option Value} {h' : Heap} {tk : Nat} (hk : env.kindOf (Str.ofString x) = some .local)
    (hmv : ∀ y vv, ρ y = some vv → env.kindOf (Str.ofString y) = some .local → ∃ u, m (Str.ofString y) = some u ∧ RepVV prog w Hz s₀.heap (WW env C O) O s.heap y u vv)
    (hn : h'.Ns env.locals (fun y => if y = Str.ofString x then some u else m y)) (hs : Heap.SameBut env.locals s.heap h') (r : RepVV prog w Hz s₀.heap (WW env C O) O s.heap x u v) :
    InF prog w Hz hb s₀ X env C (ρ.set x v) O { s with heap := h', toks := tk } := by
  have K : Wrote [env.locals] (WW env C O) s.heap h' := by
    refine ⟨fun a ha => by rw [List.mem_singleton.mp ha]; exact .head _, fun b o e hb' => (hs.2 b (by simpa using hb')).trans e, fun a ha => ?_⟩
    rw [List.mem_singleton.mp ha]
    obtain ⟨o, es, ep, ho, hd, _⟩ := hn
    refine ⟨o, ho, fun ⟨vs, k, hc⟩ => ?_⟩
    rw [hc] at hd; cases hd
  obtain ⟨w1, w2, w3, w4, w5⟩ := I.wrote K
  obtain ⟨h0, t0, e0⟩ := I.same
  refine ⟨⟨h', tk, by rw [e0]⟩, w1, w2, w3, w4, I.wfresh, I.wnodup, I.kind, I.glob, I.bult, I.clk, ⟨_, hn, fun y vv e1 e2 => ?_⟩, fun y vv e1 e2 => ?_⟩
  · have e1' : (if y = x then some v else ρ y) = some vv := (set_if _ _ _ _).symm.trans e1
    by_cases hy : y = x
    · subst hy
      rw [if_pos rfl] at e1'
      (have e := si e1'; subst e; clear e1')
      refine ⟨u, if_pos rfl, r.wrote w5 K.same fun sp hsp a ha => ?_⟩
      simpa using (own_off I.wnodup hsp ha).1
    · rw [if_neg hy] at e1'
      obtain ⟨u', a, b⟩ := hmv y vv e1' e2
      refine ⟨u', (if_neg fun q => hy (ofString_inj q)).trans a, b.wrote w5 K.same fun sp hsp a ha => ?_⟩
      simpa using (own_off I.wnodup hsp ha).1
  · have hy : y ≠ x := fun q => by rw [q, hk] at e2; cases e2
    have e1' : (if y = x then some v else ρ y) = some vv := (set_if _ _ _ _).symm.trans e1
    rw [if_neg hy] at e1'
    obtain ⟨c, u', a, b, d⟩ := I.cell y vv e1' e2
    refine ⟨c, u', a, b.sameBut hs (fun q => ?_), d.wrote w5 K.same fun sp hsp a ha => ?_⟩
    · obtain ⟨o, ho, hd⟩ := b
      obtain ⟨m', ⟨oL, es, ep, hL, hdL, _⟩, _⟩ := I.ns
      rw [q, hL] at ho; (have e := si ho; subst e; clear ho)
      rw [hdL] at hd; cases hd
    · simpa using (own_off I.wnodup hsp ha).1
theorem InF.storeL {A : Around} {E : Value → Shared → Prop} {Q : Unit → Shared → Prop} (I : InF prog w Hz hb s₀ X env C ρ O s) {x : String} {u : Value} {v : VV} (hk : env.kindOf (Str.ofString x) = some .local) (r : RepVV prog w Hz s₀.heap (WW env C O) O s.heap x u v)
    (hQ : ∀ h' tk, InF prog w Hz hb s₀ X env C (ρ.set x v) O { s with heap := h', toks := tk } → Heap.SameBut env.locals s.heap h' → Q () { s with heap := h', toks := tk }) : wpAny (model prog w) A (storeName env (Str.ofString x) u) Q E s := by
  obtain ⟨m, hm, hv⟩ := I.ns
  exact wpAny_storeName_local hk hm (fun h' hn hs => hQ h' _ (I.setL hk hv hn hs r) hs) (by rw [I.kind]; rfl)
theorem InF.weaken (I : InF prog w Hz hb s₀ X env C ρ O s) {ρ' : Rho} (h : ∀ x v, ρ' x = some v → ρ x = some v) : InF prog w Hz hb s₀ X env C ρ' O s := by
  refine ⟨I.same, I.base, I.keep, I.alive, I.walive, I.wfresh, I.wnodup, I.kind, I.glob, I.bult, I.clk, ?_, fun x vv e1 e2 => I.cell x vv (h x vv e1) e2⟩
  obtain ⟨m, hm, hv⟩ := I.ns
  exact ⟨m, hm, fun x vv e1 e2 => hv x vv (h x vv e1) e2⟩
end
noncomputable def TgL (prog : Program) (w : World) (hb : Heap) (sc : Scope) (locs : List String) (tgt : Expr) (m : V → Rho → Option Rho) : Prop :=
  (∀ v ρ ρ', m v ρ = some ρ' → ∀ x, x ∉ locs → ρ' x = ρ x) ∧
  ∀ ⦃A : Around⦄ ⦃Hz : List Addr⦄ ⦃env : Env⦄ ⦃s₀ : Shared⦄ ⦃X C : List Addr⦄ ⦃ρ ρ' : Rho⦄ ⦃O : List (String × List Addr)⦄ ⦃s : Shared⦄ ⦃u : Value⦄ ⦃v : V⦄ ⦃Q : Unit → Shared → Prop⦄ ⦃E : Value → Shared → Prop⦄,
    env.scope = sc → A.handled = none → InF prog w Hz hb s₀ X env C ρ O s → Rep prog w Hz s₀.heap (WW env C O) s.heap u v → m v ρ = some ρ' →
    (∀ h' tk, InF prog w Hz hb s₀ X env C ρ' O { s with heap := h', toks := tk } → (∀ b o, b ≠ env.locals → s.heap.get? b = some o → h'.get? b = some o) → Q () { s with heap := h', toks := tk }) → wpAny (model prog w) A (PySem.assign tgt env u) Q E s
noncomputable def isLoc (sc : Scope) (x : String) : Bool := decide (sc.names.lookup (Str.ofString x) = some .local)
theorem TgL.name {x : String} {pos : Pos} {locs : List String} (hv : isLoc sc x = true) (hl : x ∈ locs) : TgL prog w hb sc locs (.Name (Str.ofString x) pos) (putR x) := by
  refine ⟨fun v ρ ρ' h y hy => ?_, ?_⟩
  · obtain ⟨_, rfl⟩ := putR_some h
    have hyx : y ≠ x := fun e => hy (by rw [e]; exact hl)
    exact (set_if _ _ _ _).trans (if_neg hyx)
  intro A Hz env s₀ X C ρ ρ' O s u v Q E hs hA I r hm hQ
  obtain ⟨hf, rfl⟩ := putR_some hm
  have hk : env.kindOf (Str.ofString x) = some .local := by unfold Env.kindOf; rw [hs]; exact of_decide_eq_true hv
  exact wpAny_assign_Name (I.storeL (v := .val v) hk ⟨hf, r⟩ fun h' tk I' hsb => hQ h' tk I' fun b o hb' e => (hsb.2 b hb').trans e)
theorem assign_namesL {A : Around} {env : Env} {s₀ : Shared} {X C : List Addr} {O : List (String × List Addr)} {Q : Unit → Shared → Prop} {E : Value → Shared → Prop} (hs : env.scope = sc) :
    ∀ {xs : List String} {elts : List Expr} {us : List Value} {vs : List V} {ρ ρ' : Rho} {s : Shared}, (∀ x ∈ xs, isLoc sc x = true) → elts.length = xs.length → InF prog w Hz hb s₀ X env C ρ O s → Reps prog w Hz s₀.heap (WW env C O) s.heap us vs → putRs xs vs ρ = some ρ' →
    (∀ h' tk, InF prog w Hz hb s₀ X env C ρ' O { s with heap := h', toks := tk } → (∀ b o, b ≠ env.locals → s.heap.get? b = some o → h'.get? b = some o) → Q () { s with heap := h', toks := tk }) →
    wpAny (model prog w) A (assignInOrder ((xs.zipWith (fun x e => (false, PySem.assign (.Name (Str.ofString x) e.pos) env)) elts).map (·.2)) us) Q E s
  | [], [], us, vs, ρ, ρ', s, _, _, I, r, hm, hQ => by
    induction vs with
    | nil => cases r; (have e := si hm; subst e; clear hm); exact wpAny_pure (hQ s.heap s.toks I fun _ _ _ e => e)
    | cons _ _ => simp [putRs] at hm
  | [], _ :: _, _, _, _, _, _, _, h, _, _, _, _ => by simp at h
  | _ :: _, [], _, _, _, _, _, _, h, _, _, _, _ => by simp at h
  | x :: xs, e :: elts, us, vs, ρ, ρ', s, hv, hl, I, r, hm, hQ => by
    cases r with
    | nil => simp [putRs] at hm
    | cons r1 r2 =>
      rename_i u v us vs
      have hfl := (putRs_len hm).2
      simp only [putRs] at hm
      obtain ⟨ρ₁, h1, h2⟩ := bindE hm
      obtain ⟨hf, rfl⟩ := putR_some h1
      have hk : env.kindOf (Str.ofString x) = some .local := by unfold Env.kindOf; rw [hs]; exact of_decide_eq_true (hv x (.head _))
      refine wpAny_bind (wpAny_holding (wpAny_assign_Name (I.storeL (v := .val v) hk ⟨hf, r1⟩ fun h₁ tk₁ I₁ hsb => ?_)))
      have off : Off (WW env C O) s.heap h₁ := by
        intro b o eb hc
        refine (hsb.2 b fun q => ?_).trans eb
        rcases hc with hc | hc
        · exact hc (q ▸ .head _)
        · obtain ⟨o', e', nt⟩ := I.walive env.locals (.head _)
          rw [q, e'] at eb; (have e := si eb; subst e; clear eb); exact nt hc
      exact assign_namesL hs (fun y hy => hv y (.tail _ hy)) (by simpa using hl) I₁ (r2.off off fun v hv => hfl v (.tail _ hv)) h2 fun h' tk I' kp => hQ h' tk I' fun b o hb' e => kp b o hb' ((hsb.2 b hb').trans e)
theorem putRs_other : ∀ {xs : List String} {vs : List V} {ρ ρ' : Rho}, putRs xs vs ρ = some ρ' → ∀ y, y ∉ xs → ρ' y = ρ y
  | [], [], _, _, h, y, _ => by (have e := si h; subst e; clear h); rfl
  | [], _ :: _, _, _, h, _, _ => by simp [putRs] at h
  | _ :: _, [], _, _, h, _, _ => by simp [putRs] at h
  | x :: xs, v :: vs, ρ, ρ', h, y, hy => by
    simp only [putRs] at h
    obtain ⟨ρ₁, h1, h2⟩ := bindE h
    obtain ⟨_, rfl⟩ := putR_some h1
    rw [putRs_other h2 y fun q => hy (.tail _ q)]
    have hyx : y ≠ x := fun e => hy (by rw [e]; exact .head _)
    exact (set_if _ _ _ _).trans (if_neg hyx)
theorem TgL.tuple {xs : List String} {elts : List Expr} {k : Nat} {pos : Pos} {locs : List String} (hv : ∀ x ∈ xs, isLoc sc x = true) (hlc : ∀ x ∈ xs, x ∈ locs) (hlen : elts.length = xs.length)
    (he : ∀ env : Env, assignEach elts env = xs.zipWith (fun x e => (false, PySem.assign (.Name (Str.ofString x) e.pos) env)) elts) :
    TgL prog w hb sc locs (.Tuple elts k pos) (fun v ρ => (tupOf v).bind fun vs => putRs xs vs ρ) := by
  refine ⟨fun v ρ ρ' h y hy => ?_, ?_⟩
  · obtain ⟨vs, _, h⟩ := bindE h
    exact putRs_other h y fun q => hy (hlc y q)
  intro A Hz env s₀ X C ρ ρ' O s u v Q E hs hA I r
  refine bindI fun vs hvs hm hQ => ?_
  obtain ⟨vx, vf⟩ := v
  obtain ⟨as, ra, ca, oa⟩ := r
  unfold tupOf at hvs
  dsimp only at *
  split at hvs
  · rename_i ys
    (have e := si hvs; subst e; clear hvs)
    cases ra with
    | tuple a1 az a2 =>
      rename_i us kk
      rw [wf_tuple] at ca
      have hl := a2.length
      have hrs : ∀ {us : List Value} {ys : List PyData} {as : List Addr}, RDs prog w Hz s.heap us ys as → wfs ys = true → FlOk s₀.heap (WW env C O) vf as → Reps prog w Hz s₀.heap (WW env C O) s.heap us (ys.map fun x => V.fix x vf) := by
        intro us
        induction us with
        | nil => intro ys as r _ _; cases r; exact .nil
        | cons u us ih =>
          intro ys as r c o
          cases r with
          | cons r1 r2 =>
            simp only [wfs, Bool.and_eq_true] at c
            exact .cons (Rep.fixed r1 c.1 (o.mono fun _ h => List.mem_append_left _ h)) (ih r2 c.2 (o.mono fun _ h => List.mem_append_right _ h))
      have reps := hrs a2 ca.2 oa
      clear hrs
      have hxl : xs.length = us.length := by
        rw [(putRs_len hm).1, reps.length]
      refine wpAny_assign_Tuple hA ⟨_, a1, rfl, _, rfl⟩ (by rw [he]; simp [hlen, hxl]) ?_ fun h' ext => ?_
      · rw [he, List.findIdx?_eq_none_iff]
        intro p hp
        obtain ⟨i, hi, rfl⟩ := List.mem_iff_getElem.mp hp
        simp
      have k' : Keeps s { s with heap := h' } := ⟨h', s.toks, rfl, fun b o e => ext b o (Nat.ne_of_lt (Heap.lt_size e)) e⟩
      have I' := I.grow k'
      have reps' := reps.grow (keeps_grow k')
      rw [he]
      exact assign_namesL hs hv hlen I' reps' hm fun h'' tk I'' kp => hQ h'' tk I'' fun b o hb' e => kp b o hb' (keeps_grow k' _ _ e)
  · exact no hvs

theorem codeAny_compLoop_any {A : Around} {R : Result → Shared → Prop} {s : Shared} {elt target iter : Expr} {ifs : List Expr} {scope : Scope} {pos : Pos} {it acc : Value} {env : Env} (I : Nat → Shared → Prop)
    (turn : ∀ n s, I n s → wpAny (model prog w) A (pyNext it) (fun r s₁ => match r with
      | none => R (.ok .next) s₁
      | some v => wpAny (model prog w) A (letOwnedTupleGo target it v) (fun _ s₁' => wpAny (model prog w) A (assign target env v) (fun _ s₂ =>
          wpAny (model prog w) A (forIn ifs true fun c r => if r = true then do let ok ← isTrue c env (eval c env); pure (ForInStep.yield ok) else pure (ForInStep.yield r)) (fun ok s₃ =>
            if ok = true then wpAny (model prog w) A (eval elt env) (fun x s₄ =>
              wpAny (model prog w) A (call (.builtin "list.append") [acc, x]) (fun _ s₅ => ∃ m, m < n ∧ I m s₅) (notedBy (model prog w) A env fun e s' => R (.error e) s') s₄) (notedBy (model prog w) A env fun e s' => R (.error e) s') s₃
            else ∃ m, m < n ∧ I m s₃) (notedBy (model prog w) A env fun e s' => R (.error e) s') s₂) (notedBy (model prog w) A env fun e s' => R (.error e) s') s₁') (notedBy (model prog w) A env fun e s' => R (.error e) s') s₁) (notedBy (model prog w) A env fun e s' => R (.error e) s') s)
    (n : Nat) (h : I n s) :
    codeAny (model prog w) A (.compLoop (.ListComp elt [⟨target, iter, ifs, 0⟩] scope pos) 0 it acc env) R s := by
  refine codeAny_loop rfl I (fun n s hI => ?_) n h
  show wpAny _ A ((compTurn (.ListComp elt [⟨target, iter, ifs, 0⟩] scope pos) 0 it acc env).onRaise (fun x => do noteFrame x env; theTreesLotGoes x)) _ _ s
  refine wpAny_noted ?_
  rw [compTurn_list]
  refine wpAny_bind (wpAny_standAt (wpAny_bind (wpAny_mono (turn n s hI) (fun r s₁ h₁ => ?_) fun _ _ h' => h')))
  induction r with
  | none => exact wpAny_pure h₁
  | some v =>
    refine wpAny_bind (wpAny_mono h₁ (fun _ s₁' h₁' => ?_) fun _ _ h' => h')
    refine wpAny_bind (wpAny_mono h₁' (fun _ s₂ h₂ => wpAny_bind (wpAny_mono h₂ (fun ok s₃ h₃ => ?_) fun _ _ h' => h')) fun _ _ h' => h')
    induction ok with
    | false => exact wpAny_pure ⟨rfl, h₃⟩
    | true =>
      exact wpAny_bind (wpAny_bind (wpAny_mono h₃ (fun x s₄ h₄ => wpAny_bind (wpAny_mono h₄ (fun _ s₅ h₅ => wpAny_pure (wpAny_pure ⟨rfl, h₅⟩)) fun _ _ h' => h')) fun _ _ h' => h'))
noncomputable def Ifs (prog : Program) (w : World) (hb : Heap) (n : Nat) (sc : Scope) (cs : List Expr) (m : Rho → Option Bool) : Prop :=
  ∀ ⦃A : Around⦄ ⦃Hz : List Addr⦄ ⦃env : Env⦄ ⦃s₀ : Shared⦄ ⦃X C : List Addr⦄ ⦃ρ : Rho⦄ ⦃O : List (String × List Addr)⦄ ⦃s : Shared⦄ ⦃v : Bool⦄ ⦃Q : Bool → Shared → Prop⦄ ⦃E : Value → Shared → Prop⦄,
    env.scope = sc → RoomF A n → InF prog w Hz hb s₀ X env C ρ O s → m ρ = some v → (∀ s', Keeps s s' → Q v s') →
    wpAny (model prog w) A (forIn cs true fun c r => if r = true then do let ok ← isTrue c env (eval c env); pure (ForInStep.yield ok) else pure (ForInStep.yield r)) Q E s
theorem Ifs.nil : Ifs prog w hb n sc [] (fun _ => some true) := by
  intro A Hz env s₀ X C ρ O s v Q E hs hA I hm hQ
  (have e := si hm; subst e; clear hm)
  exact wpAny_tests_nil (hQ s (keeps_refl s))
theorem Ifs.one {c : Expr} {m : Rho → Option Bool} (h : Tr prog w hb n sc c m) : Ifs prog w hb n sc [c] m := by
  intro A Hz env s₀ X C ρ O s v Q E hs hA I hm hQ
  exact wpAny_tests_one (h hs hA I hm hQ)
noncomputable def compD (bind : V → Rho → Option Rho) (test : Rho → Option Bool) (elt : Rho → Option V) (ρ : Rho) : List PyData → Option (List PyData)
  | [] => some []
  | x :: xs => (bind (V.fix x .s) ρ).bind fun ρ₁ => (test ρ₁).bind fun c => if c then (elt ρ₁).bind fun v => if v.fl = .d then (compD bind test elt ρ xs).map (v.x :: ·) else none else compD bind test elt ρ xs
theorem InF.writeO {s₀ s : Shared} {X : List Addr} {env : Env} {C : List Addr} {ρ : Rho} {O : List (String × List Addr)} (I : InF prog w Hz hb s₀ X env C ρ O s) (hval : ∀ x vv, ρ x = some vv → ∃ v, vv = .val v) {z : Addr} {h' : Heap} {tk : Nat} (hz : z ∈ WW env C O) (hzL : z ≠ env.locals)
    (hzo : ∃ vs k, s.heap.get? z = some (lstObj vs k)) (hs : Heap.SameBut z s.heap h') (ht : ∃ ob, h'.get? z = some ob ∧ ¬ Tup ob) : InF prog w Hz hb s₀ X env C ρ O { s with heap := h', toks := tk } := by
  have K : Wrote [z] (WW env C O) s.heap h' :=
    ⟨fun b hb' => by rw [List.mem_singleton.mp hb']; exact hz, fun b ob e hb' => (hs.2 b (by simpa using hb')).trans e, fun b hb' => by rw [List.mem_singleton.mp hb']; exact ht⟩
  obtain ⟨w1, w2, w3, w4, w5⟩ := I.wrote K
  obtain ⟨h0, t0, e0⟩ := I.same
  refine ⟨⟨h', tk, by rw [e0]⟩, w1, w2, w3, w4, I.wfresh, I.wnodup, I.kind, I.glob, I.bult, I.clk, ?_, fun y vv e1 e2 => ?_⟩
  · obtain ⟨m, hm, hv⟩ := I.ns
    refine ⟨m, hm.sameBut hs (Ne.symm hzL), fun y vv e1 e2 => ?_⟩
    obtain ⟨u, a, b⟩ := hv y vv e1 e2
    obtain ⟨v, rfl⟩ := hval y vv e1
    exact ⟨u, a, b.1, b.2.off w5 b.1⟩
  · obtain ⟨c, u, a, b, d⟩ := I.cell y vv e1 e2
    obtain ⟨v, rfl⟩ := hval y vv e1
    refine ⟨c, u, a, b.sameBut hs (fun q => ?_), d.1, d.2.off w5 d.1⟩
    obtain ⟨o, ho, hd⟩ := b
    obtain ⟨vs, k, e⟩ := hzo
    rw [q, e] at ho; (have e := si ho; subst e; clear ho); cases hd
theorem inComp_val {locs : List String} {ρ : Rho} {x : String} {vv : VV} (h : inComp locs ρ x = some vv) : x ∉ locs ∧ ∃ v0 v, ρ x = some v0 ∧ rdVar v0 = some v ∧ vv = .val (V.fix v.x .s) := by
  unfold inComp at h
  cases hx : memS locs x with
  | true => rw [hx] at h; exact no h
  | false =>
    rw [hx] at h
    obtain ⟨v0, h1, h2⟩ := bindE h
    obtain ⟨v, h3, h4⟩ := Option.map_eq_some_iff.mp h2
    exact ⟨memS_mem hx, v0, v, h1, h3, h4.symm⟩
theorem fix_ds (x : PyData) : (V.fix x .s).fl = .d ∨ (V.fix x .s).fl = .s := by
  unfold V.fix; split
  · exact .inl rfl
  · exact .inr rfl

variable (prog w) in
inductive CompI (Hz : List Addr) (hb : Heap) (s : Shared) (cenv : Env) (ρ : Rho) (D C' : Addr) (S : Nat → Heap → Prop) (bind : V → Rho → Option Rho) (mt : Rho → Option Bool) (me : Rho → Option V) (xs ys : List PyData) : Nat → Shared → Prop
  | mk (i : Nat) (us : List Value) (ys' rest : List PyData) (cs : List Addr) (kk : Nat) (s₅ : Shared) (h1 : i ≤ xs.length) (h2 : InF prog w Hz hb s [] cenv [] ρ [(".acc", [D])] s₅) (h3 : s₅.heap.get? D = some (lstObj us kk)) (h4 : RDs prog w Hz s₅.heap us ys' cs)
      (h5 : FlOk s.heap [C', D] .d cs) (h6 : wfs ys' = true) (h7 : ys'.length ≤ i) (h8 : S i s₅.heap) (h9 : compD bind mt me ρ (xs.drop i) = some rest) (h10 : ys = ys' ++ rest) : CompI Hz hb s cenv ρ D C' S bind mt me xs ys (xs.length + 1 - i) s₅
set_option maxHeartbeats 2000000 in
theorem comp_core {elt tgt iter : Expr} {ifs : List Expr} {scope : Scope} {pos : Pos} {locs : List String} {mi : Rho → Option (List PyData × Fl)} {bind : V → Rho → Option Rho} {mt : Rho → Option Bool} {me : Rho → Option V} (ok : CompOk scope sc locs)
    (hi : It prog w hb n sc tgt iter mi) (ht : TgL prog w hb (relS scope sc) locs tgt bind) (hif : Ifs prog w hb n (relS scope sc) ifs mt) (he : Ev prog w hb n (relS scope sc) elt me)
    {A : Around} {env : Env} {s₀ : Shared} {X C : List Addr} {ρ : Rho} {O : List (String × List Addr)} {s : Shared} {E : Value → Shared → Prop} {xs : List PyData} {f : Fl} {ys : List PyData} {R : Value → Addr → Result → Shared → Prop}
    (hs : env.scope = sc) (hA : RoomF A n) (I : InF prog w Hz hb s₀ X env C ρ O s) (hv : mi ρ = some (xs, f)) (hd : compD bind mt me (inComp locs ρ) xs = some ys)
    (hR : ∀ D C' s' cs m, Keeps s s' → RD prog w Hz s'.heap (.ref D) (.list ys) (D :: cs) → wf (.list ys) = true → (∀ a ∈ D :: cs, s.heap.get? a = none ∧ a ≠ C') → s.heap.get? C' = none → s'.heap.Ns C' m → R (.ref D) C' (.ok .next) s') :
    wpAny (model prog w) A (eval iter env) (fun x s₁ => wpAny (model prog w) A (pyIter x) (fun it s₂ => wpAny (model prog w) A (newList []) (fun acc s₃ =>
      wpAny (model prog w) A (newFunctionEnv scope env.globals (clos env.cells scope.names []) [] env.qual none .none (some env)) (fun cenv s₄ =>
        codeAny (model prog w) A (.compStart (.ListComp elt [⟨tgt, iter, ifs, 0⟩] scope pos) 0 it acc { cenv with scope := relabel scope env }) (R acc cenv.locals) s₄) E s₃) E s₂) E s₁) E s := by
  refine hi.2 hs hA I hv fun J F wr Zs S s₂ k₂ T hS hF hwf hlen hwr => ?_
  dsimp only at T hF hwf hlen
  refine wpAny_newObj_type (wpAny_newFunctionEnv ok.nocell (by intro y hy; simp at hy) (fun h₁ hns₁ hsb₁ => ?_) ok.kind)
  dsimp only at hns₁ hsb₁ ⊢
  -- the addresses
  have hDs : s.heap.get? s₂.heap.objs.size = none := by
    cases e : s.heap.get? s₂.heap.objs.size with
    | none => rfl
    | some o => exact absurd (Heap.lt_size (keeps_grow k₂ _ _ e)) (Nat.lt_irrefl _)
  generalize hH : s₂.heap.push { cls := .type "list", dict := none, data := .seq ([] : List Value).toArray } = H at hns₁ hsb₁ ⊢
  have hHs : H.objs.size = s₂.heap.objs.size + 1 := by rw [← hH, Heap.size_push]
  have hCs : s.heap.get? H.objs.size = none := by
    cases e : s.heap.get? H.objs.size with
    | none => rfl
    | some o =>
      have := Heap.lt_size (keeps_grow k₂ _ _ e)
      rw [hHs] at this
      exact absurd this (Nat.not_lt.mpr (Nat.le_succ _))
  have hDC : s₂.heap.objs.size ≠ H.objs.size := by rw [hHs]; exact Nat.ne_of_lt (Nat.lt_succ_self _)
  have old : ∀ b o, s₂.heap.get? b = some o → h₁.get? b = some o := by
    intro b o e
    have hb1 := Heap.lt_size e
    refine hsb₁.extBut b o ?_ (Heap.get?_push_of_some _ (hH ▸ Heap.get?_push_of_some _ e))
    rw [hHs]; exact Nat.ne_of_lt (Nat.lt_succ_of_lt hb1)
  have below : ∀ b o, s₂.heap.get? b = some o → b ≠ H.objs.size ∧ b ≠ s₂.heap.objs.size := by
    intro b o e
    have hb1 := Heap.lt_size e
    exact ⟨by rw [hHs]; exact Nat.ne_of_lt (Nat.lt_succ_of_lt hb1), Nat.ne_of_lt hb1⟩
  have hD₁ : h₁.get? s₂.heap.objs.size = some (lstObj [] 0) := hsb₁.extBut _ _ hDC (Heap.get?_push_of_some _ (hH ▸ Heap.get?_push_size _ rfl))
  generalize hD : s₂.heap.objs.size = D at *
  generalize hC' : H.objs.size = C' at *
  have hbD : ∀ a, s.heap.get? a = none → hb.get? a = none := by
    intro a ha
    cases e : hb.get? a with
    | none => rfl
    | some o => rw [I.base.grow _ _ e] at ha; cases ha
  have kall : ∀ b o, s.heap.get? b = some o → h₁.get? b = some o := fun b o e => old b o (keeps_grow k₂ _ _ e)
  obtain ⟨hx0, tx0, ex0⟩ := k₂
  -- the block's own frame
  let cenv : Env := { newEnv scope C' env.globals (clos env.cells scope.names []) env.qual none .none (some env) 0 with scope := relabel scope env }
  have ceq : ∀ b, { newEnv scope C' env.globals (clos env.cells scope.names []) env.qual none .none (some env) b with scope := relabel scope env } = cenv := fun _ => rfl
  have csc : cenv.scope = relS scope sc := by show relabel scope env = _; rw [relabel_eq, hs]
  have cW : WW cenv [] [(".acc", [D])] = [C', D] := rfl
  have DZ : ∀ a o, s.heap.get? a = some o → a ∉ Hz → a ∉ Zs ++ Hz := fun a o e q z => (List.mem_append.mp z).elim (fun z => by rw [hwr a (T.sub a z)] at e; exact no e) q
  have dropD : ∀ (h : Heap) a o, h.get? a = some o → a ∉ Zs ++ Hz → a ∉ Hz := fun _ a _ _ q z => q (List.mem_append_right _ z)
  have notHz : ∀ b ∈ wr, b ∉ Hz := fun b hb' hz => by
    obtain ⟨_, o, e, _⟩ := I.base.hide b hz
    rw [hwr b hb'] at e; cases e
  have bI := I.base.trans kall
  have cI : ∀ tk, InF prog w (Zs ++ Hz) hb s [] cenv [] (inComp locs ρ) [(".acc", [D])] { s₂ with heap := h₁, toks := tk } := by
    intro tk
    refine ⟨⟨h₁, tk, by rw [ex0.1]⟩, ⟨fun z hz => (List.mem_append.mp hz).elim (fun q => ⟨hbD z (hwr z (T.sub z q)), by obtain ⟨o, e, t⟩ := T.tups 0 _ hS z q; exact ⟨o, old z o e, t⟩⟩) (bI.hide z), bI.lim, bI.seer, bI.tree, bI.mods, bI.grow⟩, fun b o e _ => kall b o e, fun b o e => ⟨o, kall b o e⟩, ?_, ?_, ?_, ?_, ?_, ?_, ?_, ?_, ?_⟩
    · rw [cW]
      intro a ha
      rcases List.mem_cons.mp ha with rfl | ha
      · obtain ⟨o, es, ep, ho, hd', _⟩ := hns₁
        exact ⟨o, ho, fun ⟨_, _, q⟩ => by rw [q] at hd'; cases hd'⟩
      · rw [List.mem_singleton.mp ha]; exact ⟨_, hD₁, not_tup_lst _ _⟩
    · rw [cW]
      intro a ha
      rcases List.mem_cons.mp ha with rfl | ha
      · exact ⟨hbD _ hCs, fun _ => hCs⟩
      · rw [List.mem_singleton.mp ha]; exact ⟨hbD _ hDs, fun _ => hDs⟩
    · rw [cW]; simp [Ne.symm hDC]
    · rw [csc]; exact ok.kind
    · exact I.glob
    · exact I.bult
    · intro x e
      have e' : (relS scope sc).names.lookup x = some .cell := by rw [← csc]; exact e
      obtain ⟨q1, q2⟩ := relS_cell ok.nocell e'
      obtain ⟨c, hc⟩ := I.clk x (by unfold Env.kindOf; rw [hs]; exact q2)
      exact ⟨c, clos_lookup hc _ _ (.inl rfl) (.inl q1)⟩
    · refine ⟨_, hns₁, fun x vv e1 e2 => ?_⟩
      have e' : (relS scope sc).names.lookup (Str.ofString x) = some .local := by rw [← csc]; exact e2
      have hx := (ok.locs _ (relS_local e') rfl).2
      obtain ⟨y, hy, q⟩ := List.mem_map.mp hx
      rw [ofString_inj q] at hy
      exact absurd hy (inComp_val e1).1
    · intro x vv e1 e2
      have e' : (relS scope sc).names.lookup (Str.ofString x) = some .cell := by rw [← csc]; exact e2
      obtain ⟨q1, q2⟩ := relS_cell ok.nocell e'
      obtain ⟨_, v0, v, r1, r2, rfl⟩ := inComp_val e1
      obtain ⟨c, u, hc, hu, rep⟩ := I.cell x v0 r1 (by unfold Env.kindOf; rw [hs]; exact q2)
      refine ⟨c, u, clos_lookup hc _ _ (.inl rfl) (.inl q1), isCell_grow hu kall, fix_ds _, ?_⟩
      obtain ⟨as, rd, cw, _⟩ := rep.rd r2
      refine Rep.fixed (((hide_both DZ).1 rd).grow kall) cw fun a ha => ?_
      rw [cW]
      obtain ⟨o, e⟩ := rd.alive a ha
      simp only [List.mem_cons, List.not_mem_nil, or_false, not_or]
      exact ⟨(fun q => by rw [q, hCs] at e; exact no e), (fun q => by rw [q, hDs] at e; cases e)⟩
  have hval : ∀ x vv, inComp locs ρ x = some vv → ∃ v, vv = .val v := fun x vv e => let ⟨_, _, v, _, _, q⟩ := inComp_val e; ⟨_, q⟩
  have wrOk : ∀ b ∈ wr, hb.get? b = none ∧ s.heap.get? b = none ∧ b ∉ WW cenv [] [(".acc", [D])] := by
    intro b hb'
    refine ⟨hbD b (hwr b hb'), hwr b hb', ?_⟩
    rw [cW]
    obtain ⟨o, e⟩ := T.there hS hb'
    obtain ⟨q1, q2⟩ := below b o e
    simp [q1, q2]
  have FOk : ∀ a ∈ F, a ∉ WW cenv [] [(".acc", [D])] := by
    intro a ha
    rw [cW]
    obtain ⟨o, e⟩ := T.alive 0 _ hS a ha
    obtain ⟨q1, q2⟩ := below a o e
    simp [q1, q2]
  have wr' : ∀ b ∈ wr, b ∉ WW cenv [] [(".acc", [D])] := fun b hb' => (wrOk b hb').2.2
  have hS₁ : S 0 h₁ := T.frame 0 _ _ (WW cenv [] [(".acc", [D])]) hS (fun b o e _ => old b o e) FOk wr'
  have loop : ∀ tk, codeAny (model prog w) A (.compLoop (.ListComp elt [⟨tgt, iter, ifs, 0⟩] scope pos) 0 (.ref J) (.ref D) cenv) (R (.ref D) C') { s₂ with heap := h₁, toks := tk } := by
    intro tk₀
    refine codeAny_compLoop_any (CompI prog w (Zs ++ Hz) hb s cenv (inComp locs ρ) D C' S bind mt me xs ys) ?_ (xs.length + 1)
      (CompI.mk 0 [] [] ys [] 0 _ (Nat.zero_le _) (cI tk₀) hD₁ .nil FlOk.nil rfl (Nat.le_refl _) hS₁ hd rfl)
    rintro k s₅ ⟨i, us, ys', rest, cs, kk, _, hil, I₅, hD₅, rd₅, fo₅, wf₅, len₅, hS₅, hm₅, hys⟩
    by_cases hlt : i < xs.length
    · have hx : xs[i]? = some xs[i] := List.getElem?_eq_getElem hlt
      rw [List.drop_eq_getElem_cons hlt] at hm₅
      simp only [compD] at hm₅
      obtain ⟨ρ₁, hb₁, hm₆⟩ := bindE hm₅
      obtain ⟨c, hc, hm₇⟩ := bindE hm₆
      refine wpAny_mono (T.turn i _ s₅ ?Q (notedBy (model prog w) A cenv fun e s' => R (.ref D) C' (.error e) s') hx hS₅ (fun z hz => let ⟨_, o, e, _⟩ := I₅.base.hide z (List.mem_append_right _ hz); ⟨o, e⟩) ?k) ?hgo fun _ _ e => e
      case hgo =>
        intro rr s₆ h₆
        induction rr with
        | none => exact h₆.elim
        | some v => exact h₆
      case k =>
        intro v as h' tk rd has hS₆ kp
        have I₆ := I₅.iterTo (Hy := Zs ++ Hz) (tk := tk) (T.inert i _ hS₅) wrOk kp (fun _ q => q) (fun z hz hw => (List.mem_append.mp hz).elim (T.tups _ _ hS₆ z) fun q => absurd q (notHz z hw))
        have K₆ : Inert (Zs ++ Hz) s₅.heap h' := Inert.of (T.inert i _ hS₅) (T.tups i _ hS₅) kp
        have hD₆ : h'.get? D = some (lstObj us kk) := K₆ _ _ hD₅ (fun _ q => by cases q) fun _ => not_tup_lst _ _
        have rd₆ := rd₅.inert K₆
        have rep : Rep prog w (Zs ++ Hz) s.heap (WW cenv [] [(".acc", [D])]) h' v (V.fix xs[i] .s) := Rep.fixed rd ((wfs_iff _).mp hwf _ (List.getElem_mem _)) fun a ha => FOk a (has a ha)
        refine ht.2 csc hA.handled I₆ rep hb₁ fun h₇ tk₇ I₇ kp₇ => ?_
        have off₇ : Off (WW cenv [] [(".acc", [D])]) h' h₇ := by
          intro b o e hc'
          refine kp₇ b o (fun q => ?_) e
          rcases hc' with hc' | hc'
          · exact hc' (q ▸ .head _)
          · obtain ⟨o', e', nt⟩ := I₆.walive cenv.locals (.head _)
            rw [q] at e
            rw [e] at e'; (have e := si e'; subst e; clear e'); exact nt hc'
        have hS₇ := T.frame _ _ _ _ hS₆ off₇ FOk wr'
        have hD₇ : h₇.get? D = some (lstObj us kk) := kp₇ _ _ hDC hD₆
        have fo₅' : ∀ a ∈ cs, a ∉ WW cenv [] [(".acc", [D])] := fun a ha => by rw [cW]; exact (fo₅ a ha).2
        have rd₇ := rd₆.off off₇ fo₅'
        refine hif csc hA I₇ hc fun s₈ k₈ => ?_
        have I₈ := I₇.grow k₈
        have back : ∀ {s₉ : Shared}, InF prog w (Zs ++ Hz) hb s [] cenv [] ρ₁ [(".acc", [D])] s₉ → InF prog w (Zs ++ Hz) hb s [] cenv [] (inComp locs ρ) [(".acc", [D])] s₉ := fun J => J.weaken fun x vv e => by
          rw [ht.1 _ _ _ hb₁ x (inComp_val e).1]; exact e
        have hS₈ := T.frame _ _ _ (WW cenv [] [(".acc", [D])]) hS₇ (Off.of_grow (keeps_grow k₈)) FOk wr'
        have hD₈ := keeps_grow k₈ _ _ hD₇
        have rd₈ := rd₇.grow (keeps_grow k₈)
        induction c with
        | false =>
          simp only [Bool.false_eq_true, if_false] at hm₇ ⊢
          exact ⟨_, turn_lt hlt, .mk (i + 1) us ys' rest cs kk _ hlt (back I₈) hD₈ rd₈ fo₅ wf₅ (Nat.le_succ_of_le len₅) hS₈ hm₇ hys⟩
        | true =>
          simp only [if_true] at hm₇ ⊢
          obtain ⟨ev, hev, hm₈⟩ := bindE hm₇
          split at hm₈
          · rename_i hfl
            induction mapE hm₈ with | mk rest' hr' => ?_
            refine he csc hA I₈ hev fun u s₉ k₉ r₉ => ?_
            obtain ⟨bs, rdu, cwu, fou⟩ := r₉
            rw [hfl, cW] at fou
            have hul := rd₅.length
            have hD₉ := keeps_grow k₉ _ _ hD₈
            refine wpAny_list_append_plain (items := us.toArray) ⟨kk, hD₉⟩ (fun h₁₀ pl sb => ?_) (by simp; lia)
            obtain ⟨k', hD₁₀⟩ := pl
            have hD₁₀' : h₁₀.get? D = some (lstObj (us ++ [u]) k') := by rw [hD₁₀]; simp
            have I₁₀ := (back (I₈.grow k₉)).writeO (tk := s₉.toks) hval (z := D) (h' := h₁₀) (by rw [cW]; simp) hDC ⟨_, _, hD₉⟩ sb ⟨_, hD₁₀', not_tup_lst _ _⟩
            have off₁₀ : Off (WW cenv [] [(".acc", [D])]) s₉.heap h₁₀ := by
              intro b o e hc'
              refine (sb.2 b fun q => ?_).trans e
              rcases hc' with hc' | hc'
              · exact hc' (by rw [cW, q]; simp)
              · rw [q, hD₉] at e; cases e; exact not_tup_lst _ _ hc'
            refine ⟨_, turn_lt hlt, .mk (i + 1) (us ++ [u]) (ys' ++ [ev.x]) rest' (cs ++ (bs ++ [])) k' _ hlt I₁₀ hD₁₀' ?_ ?_ ?_ ?_ ?_ hr' (by rw [hys]; simp)⟩
            · exact ((rd₈.grow (keeps_grow k₉)).off off₁₀ fo₅').append (.cons (rdu.off off₁₀ fun a ha => by rw [cW]; exact (fou a ha).2) .nil)
            · rw [List.append_nil]; exact FlOk.append fo₅ fou
            · rw [wfs_append, wf₅]; simp [wfs, cwu]
            · simp; lia
            · exact T.frame _ _ _ _ (T.frame _ _ _ (WW cenv [] [(".acc", [D])]) hS₈ (Off.of_grow (keeps_grow k₉)) FOk wr') off₁₀ FOk wr'
          · exact no hm₈
    · have hi' : i = xs.length := by lia
      subst hi'
      simp only [List.drop_length, compD] at hm₅
      cases hm₅
      refine T.done s₅ _ _ hS₅ fun h' tk kp => ?_
      have I₆ := I₅.iterTo (Hy := Hz) (tk := tk) (T.inert _ _ hS₅) wrOk kp (fun _ q => List.mem_append_right _ q) (fun z hz hw => absurd hz (notHz z hw))
      have K₆ : Inert (Zs ++ Hz) s₅.heap h' := Inert.of (T.inert _ _ hS₅) (T.tups _ _ hS₅) kp
      have hD₆ : h'.get? D = some (lstObj us kk) := K₆ _ _ hD₅ (fun _ q => by cases q) fun _ => not_tup_lst _ _
      obtain ⟨m, hm, _⟩ := I₆.ns
      obtain ⟨h'', tk'', e''⟩ := I₆.same
      rw [List.append_nil] at hys
      subst hys
      refine hR D C' _ cs m ⟨h'', tk'', e'', fun b o e => ?_⟩ (.list hD₆ ((hide_both (dropD _)).2 (rd₅.inert K₆))) (wf_list.mpr ⟨by lia, wf₅⟩) (fun a ha => ?_) hCs hm
      · have := I₆.keep b o e (by simp)
        rw [e''] at this; exact this
      · rcases List.mem_cons.mp ha with rfl | ha
        · exact ⟨hDs, hDC⟩
        · obtain ⟨q1, q2⟩ := fo₅ a ha
          exact ⟨q1, fun q => q2 (q ▸ .head _)⟩
  exact codeAny_compStart_list (loop _) (T.self 0 _ _ _ hS₁ (loop _))

noncomputable def compV (mi : Rho → Option (List PyData × Fl)) (locs : List String) (bind : V → Rho → Option Rho) (mt : Rho → Option Bool) (me : Rho → Option V) (ρ : Rho) : Option (List PyData) :=
  (mi ρ).bind fun v => compD bind mt me (inComp locs ρ) v.1
theorem Ev.comp {elt tgt iter : Expr} {ifs : List Expr} {scope : Scope} {pos : Pos} {locs : List String} {mi : Rho → Option (List PyData × Fl)} {bind : V → Rho → Option Rho} {mt : Rho → Option Bool} {me : Rho → Option V} (ok : compOk scope sc locs = true)
    (hi : It prog w hb n sc tgt iter mi) (ht : TgL prog w hb (relS scope sc) locs tgt bind) (hif : Ifs prog w hb n (relS scope sc) ifs mt) (he : Ev prog w hb n (relS scope sc) elt me) :
    Ev prog w hb n sc (.ListComp elt [⟨tgt, iter, ifs, 0⟩] scope pos) (fun ρ => (compV mi locs bind mt me ρ).map fun ys => ⟨.list ys, .d⟩) := by
  intro A Hz env s₀ X C ρ O s v Q E hs hA I hm hQ
  induction mapE hm with | mk ys hys => ?_
  obtain ⟨⟨xs, f⟩, hv, hd⟩ := bindE hys
  have OK := CompOk.of ok
  have hcl : ∀ p ∈ scope.names, p.2 = .free → ∃ c, env.cells.lookup p.1 = some c := fun p hp e => I.clk p.1 (by unfold Env.kindOf; rw [hs]; exact OK.free p hp e)
  show wpAny _ _ (comprehension (.ListComp elt [⟨tgt, iter, ifs, 0⟩] scope pos) scope env (firstIterPos [⟨tgt, iter, ifs, 0⟩] pos) (newList []) false (eval iter env)) _ _ s
  refine wpAny_comprehension_free (g := ⟨tgt, iter, ifs, 0⟩) (gs := []) rfl (hi.1 env) (closureFor_clos hcl) OK.kind (fun x hx e => (OK.locs x hx e).1) ?_
  refine comp_core OK hi ht hif he hs hA I hv hd fun D C' s' cs m k rd cw fr hC hn => ?_
  refine ⟨m, hn, fun h' hsb => ?_⟩
  have k' : Keeps s { s' with heap := h' } := by
    obtain ⟨h1, t1, e1, g1⟩ := k
    subst e1
    exact ⟨h', t1, rfl, fun b o e => (hsb.2 b fun q => by rw [q, hC] at e; exact no e).trans (g1 b o e)⟩
  refine hQ _ _ k' ⟨D :: cs, rd.off (W := [C']) (fun b o e hc => ?_) (fun a ha => by simpa using (fr a ha).2), cw, fun a ha => I.fresh (fr a ha).1⟩
  refine (hsb.2 b fun q => ?_).trans e
  obtain ⟨o', es, ep, ho', hd', _⟩ := hn
  rcases hc with hc | hc
  · exact hc (by simp [q])
  · rw [q, ho'] at e; (have e := si e; subst e; clear e)
    obtain ⟨_, _, z⟩ := hc
    rw [z] at hd'; cases hd'

section
variable {s₀ s : Shared} {X : List Addr} {env : Env} {C : List Addr} {ρ : Rho} {O : List (String × List Addr)}
theorem InS.setG (I : InS prog w Hz hb s₀ X env C ρ O s) {x : String} {u : Value} {v : VV} {m : Str → Option Value} {h' : Heap} {tk : Nat} (hk : env.kindOf (Str.ofString x) = some .local)
    (hmv : ∀ y vv, ρ y = some vv → env.kindOf (Str.ofString y) = some .local → ∃ u, m (Str.ofString y) = some u ∧ RepVV prog w Hz s₀.heap (WW env C O) O s.heap y u vv)
    (hn : h'.Ns env.locals (fun y => if y = Str.ofString x then some u else m y)) (hs : ∀ b o, b ≠ env.locals → s.heap.get? b = some o → h'.get? b = some o) (r : RepVV prog w Hz s₀.heap (WW env C O) O h' x u v) :
    InS prog w Hz hb s₀ X env C (ρ.set x v) O { s with heap := h', toks := tk } := by
  have K : Wrote [env.locals] (WW env C O) s.heap h' := by
    refine ⟨fun a ha => by rw [List.mem_singleton.mp ha]; exact .head _, fun b o e hb' => hs b o (by simpa using hb') e, fun a ha => ?_⟩
    rw [List.mem_singleton.mp ha]
    obtain ⟨o, es, ep, ho, hd, _⟩ := hn
    refine ⟨o, ho, fun ⟨vs, k, hc⟩ => ?_⟩
    rw [hc] at hd; cases hd
  obtain ⟨w1, w2, w3, w4, w5⟩ := I.toInF.wrote K
  obtain ⟨h0, t0, e0⟩ := I.same
  have hne : ∀ c ∈ C, c ≠ env.locals := fun c hc e => by
    have := I.wnodup
    unfold WW at this
    rw [List.nodup_cons] at this
    exact this.1 (e ▸ List.mem_append_left _ hc)
  refine ⟨⟨⟨h', tk, by rw [e0]⟩, w1, w2, w3, w4, I.wfresh, I.wnodup, I.kind, I.glob, I.bult, I.clk, ⟨_, hn, fun y vv e1 e2 => ?_⟩, fun y vv e1 e2 => ?_⟩, I.fc, I.finj, fun z c hc => ?_⟩
  · have e1' : (if y = x then some v else ρ y) = some vv := (set_if _ _ _ _).symm.trans e1
    by_cases hy : y = x
    · subst hy
      rw [if_pos rfl] at e1'
      (have e := si e1'; subst e; clear e1')
      exact ⟨u, if_pos rfl, r⟩
    · rw [if_neg hy] at e1'
      obtain ⟨u', a, b⟩ := hmv y vv e1' e2
      refine ⟨u', (if_neg fun q => hy (ofString_inj q)).trans a, b.wrote w5 K.same fun sp hsp a ha => ?_⟩
      simpa using (own_off I.wnodup hsp ha).1
  · have hy : y ≠ x := fun q => by rw [q, hk] at e2; cases e2
    have e1' : (if y = x then some v else ρ y) = some vv := (set_if _ _ _ _).symm.trans e1
    rw [if_neg hy] at e1'
    obtain ⟨c, u', a, ⟨o, ho, hd⟩, d⟩ := I.cell y vv e1' e2
    refine ⟨c, u', a, ⟨o, hs c o (hne c (I.cello _ c a).1) ho, hd⟩, d.wrote w5 K.same fun sp hsp a ha => ?_⟩
    simpa using (own_off I.wnodup hsp ha).1
  · obtain ⟨q, v, o, ho, hd⟩ := I.cello z c hc
    exact ⟨q, v, o, hs c o (hne c q) ho, hd⟩
end
noncomputable def swapB (sc scope : Scope) (x : String) (line vline : Nat) : Bool :=
  sc.names.lookup (Str.ofString x) == some .local && line == vline && !(scope.names.any fun p => p.1 == Str.ofString x && (p.2 == .local || p.2 == .cell))
theorem swaps_eq {env : Env} {elt : Expr} {gens : List Comprehension} {scope : Scope} {pos p : Pos} {x : String} {line : Nat} (hs : env.scope = sc) (hk : sc.kind = .function) :
    swapsWith (.ListComp elt gens scope pos) (some (.Name (Str.ofString x) p)) line env = pure (swapB sc scope x p.line pos.line) := by
  unfold swapsWith swapB Env.blockKind Env.kindOf
  simp only [hs, hk]
  rfl
theorem S1.assignComp {x : String} {elt tgt iter : Expr} {ifs : List Expr} {scope : Scope} {p cpos pos : Pos} {locs : List String} {mi : Rho → Option (List PyData × Fl)} {bind : V → Rho → Option Rho} {mt : Rho → Option Bool} {me : Rho → Option V} (ok : compOk scope sc locs = true)
    (hi : It prog w hb n sc tgt iter mi) (ht : TgL prog w hb (relS scope sc) locs tgt bind) (hif : Ifs prog w hb n (relS scope sc) ifs mt) (he : Ev prog w hb n (relS scope sc) elt me) (hsw : swapB sc scope x p.line cpos.line = true) :
    S1 prog w hb n sc (.Assign [.Name (Str.ofString x) p] (.ListComp elt [⟨tgt, iter, ifs, 0⟩] scope cpos) pos) (fun ρ => (compV mi locs bind mt me ρ).map fun ys => .next (ρ.set x (.val ⟨.list ys, .d⟩))) := by
  intro A Hz env s₀ X C ρ O s r Q E hs hA I hm hQ
  induction mapE hm with | mk ys hys => ?_
  obtain ⟨⟨xs, f⟩, hv, hd⟩ := bindE hys
  have OK := CompOk.of ok
  have hk : env.kindOf (Str.ofString x) = some .local := by
    simp only [swapB, Bool.and_eq_true] at hsw
    unfold Env.kindOf; rw [hs]; exact eq_of_beq hsw.1.1
  have hcl : ∀ p ∈ scope.names, p.2 = .free → ∃ c, env.cells.lookup p.1 = some c := fun p hp e => I.clk p.1 (by unfold Env.kindOf; rw [hs]; exact OK.free p hp e)
  have hsw' : swapsWith (.ListComp elt [⟨tgt, iter, ifs, 0⟩] scope cpos) (some (.Name (Str.ofString x) p)) pos.line env = pure true := by
    rw [swaps_eq hs (by rw [← hs]; exact I.kind), hsw]
  rw [exec_Assign_Name_used _ _ _ _ hsw']
  refine wpAny_bind (wpAny_standAt (wpAny_bind ?_))
  show wpAny _ A (do let _ ← comprehension (.ListComp elt [⟨tgt, iter, ifs, 0⟩] scope cpos) scope env _ (newList []) false (eval iter env) (some (PySem.assign (.Name (Str.ofString x) p) env))) _ _ s
  refine wpAny_bind (wpAny_mono (wpAny_comprehension_free (use := some (PySem.assign (.Name (Str.ofString x) p) env)) (Q := fun _ s' => Q .next s') (g := ⟨tgt, iter, ifs, 0⟩) (gs := []) rfl (hi.1 env) (closureFor_clos hcl) OK.kind (fun x hx e => (OK.locs x hx e).1) ?_)
    (fun _ s' hq => wpAny_pure (wpAny_pure hq)) fun _ _ e => e)
  refine comp_core OK hi ht hif he hs hA I.toInF hv hd fun D C' s' cs m k rd cw fr hC hn => ?_
  show wpAny _ A (PySem.assign (.Name (Str.ofString x) p) env (.ref D)) _ _ s'
  obtain ⟨mL, hmL, hvL⟩ := I.ns
  have hLs : ∃ o, s.heap.get? env.locals = some o := by obtain ⟨o, _, _, ho, _⟩ := hmL; exact ⟨o, ho⟩
  have hLC : env.locals ≠ C' := fun q => by obtain ⟨o, ho⟩ := hLs; rw [q, hC] at ho; exact no ho
  refine wpAny_assign_Name (wpAny_storeName_local hk (hmL.keeps (keeps_grow k)) (fun h₂ hn₂ hs₂ => ?_) (by rw [I.kind]; rfl))
  refine ⟨m, hn.sameBut hs₂ (Ne.symm hLC), fun h₃ hs₃ => ?_⟩
  have kk : ∀ b o, b ≠ env.locals → s.heap.get? b = some o → h₃.get? b = some o := fun b o hbL e =>
    (hs₃.2 b fun q => by rw [q, hC] at e; exact no e).trans ((hs₂.2 b hbL).trans (keeps_grow k b o e))
  obtain ⟨h1, t1, e1, g1⟩ := k
  subst e1
  have fr' : ∀ a ∈ D :: cs, s₀.heap.get? a = none ∧ a ∉ WW env C O := fun a ha => I.toInF.fresh (fr a ha).1
  have rd₃ : RD prog w Hz h₃ (.ref D) (.list ys) (D :: cs) := by
    refine rd.off (W := [env.locals, C']) (fun b o e hc => ?_) fun a ha => ?_
    · have hbL : b ≠ env.locals := fun q => by
        rcases hc with hc | hc
        · exact hc (by simp [q])
        · obtain ⟨o', es, ep, ho', hd', _⟩ := hmL
          obtain ⟨_, _, z⟩ := hc
          rw [q, g1 _ _ ho'] at e; (have e := si e; subst e; clear e)
          rw [z] at hd'; cases hd'
      have hbC : b ≠ C' := fun q => by
        rcases hc with hc | hc
        · exact hc (by simp [q])
        · obtain ⟨o', es, ep, ho', hd', _⟩ := hn
          obtain ⟨_, _, z⟩ := hc
          rw [q] at e
          rw [e] at ho'; (have e := si ho'; subst e; clear ho')
          rw [z] at hd'; cases hd'
      exact (hs₃.2 b hbC).trans ((hs₂.2 b hbL).trans e)
    · have h1' := fr a ha
      have h2' := fr' a ha
      simp only [List.mem_cons, List.not_mem_nil, or_false, not_or]
      exact ⟨fun q => h2'.2 (q ▸ .head _), h1'.2⟩
  refine hQ O _ (I.setG (u := .ref D) (v := .val ⟨.list ys, .d⟩) hk hvL (hn₂.sameBut hs₃ hLC) kk ⟨.inl rfl, D :: cs, rd₃, cw, fr'⟩) ⟨fun b o e hb' => kk b o (fun q => hb' (q ▸ .head _)) e, fun _ h => .inl h⟩

noncomputable def tyName : PyData → String
  | .none => "NoneType"
  | .bool _ => "bool"
  | .int _ => "int"
  | .str _ => "str"
  | .list _ => "list"
  | .tuple _ => "tuple"
  | .dict _ => "dict"
noncomputable def isT (T : String) (x : PyData) : Bool := tyName x == T || (tyName x == "bool" && T == "int")
noncomputable def instD : PyData → Bool
  | .dict kvs => !plainK kvs
  | _ => false
noncomputable def isTo (T : String) (x : PyData) : Option V := if instD x = true then none else some ⟨.bool (isT T x), .d⟩
theorem isTo_none {T : String} : isTo T .none = some ⟨.bool (isT T .none), .d⟩ := rfl
theorem isTo_bool {T : String} {b : Bool} : isTo T (.bool b) = some ⟨.bool (isT T (.bool b)), .d⟩ := rfl
theorem isTo_str {T : String} {x : Str} : isTo T (.str x) = some ⟨.bool (isT T (.str x)), .d⟩ := rfl
theorem isTo_list {T : String} {xs : List PyData} : isTo T (.list xs) = some ⟨.bool (isT T (.list xs)), .d⟩ := rfl
theorem isTo_tuple {T : String} {xs : List PyData} : isTo T (.tuple xs) = some ⟨.bool (isT T (.tuple xs)), .d⟩ := rfl
structure TyOk (T : String) : Prop where
  ty : typeOf (.type T) = pure (.type "type")
  sub : ∀ x : PyData, isSubtype (.type (tyName x)) (.type T) = pure (isT T x)
theorem TyOk.of {T : String} (ty : typeOf (.type T) = pure (.type "type")) (h1 : isSubtype (.type "NoneType") (.type T) = pure (isT T .none)) (h2 : isSubtype (.type "bool") (.type T) = pure (isT T (.bool true)))
    (h3 : isSubtype (.type "int") (.type T) = pure (isT T (.int 0))) (h4 : isSubtype (.type "str") (.type T) = pure (isT T (.str Str.empty))) (h5 : isSubtype (.type "list") (.type T) = pure (isT T (.list []))) (h6 : isSubtype (.type "tuple") (.type T) = pure (isT T (.tuple [])))
    (h7 : isSubtype (.type "dict") (.type T) = pure (isT T (.dict []))) : TyOk T := by
  refine ⟨ty, fun x => ?_⟩
  cases x <;> assumption
theorem tyOk_int : TyOk "int" := by
  refine .of ?_ ?_ ?_ ?_ ?_ ?_ ?_ ?_ <;> first | kernel_rfl | (rw [isSubtype_type]; kernel_rfl)
theorem tyOk_bool : TyOk "bool" := by
  refine .of ?_ ?_ ?_ ?_ ?_ ?_ ?_ ?_ <;> first | kernel_rfl | (rw [isSubtype_type]; kernel_rfl)
theorem tyOk_str : TyOk "str" := by
  refine .of ?_ ?_ ?_ ?_ ?_ ?_ ?_ ?_ <;> first | kernel_rfl | (rw [isSubtype_type]; kernel_rfl)
theorem tyOk_list : TyOk "list" := by
  refine .of ?_ ?_ ?_ ?_ ?_ ?_ ?_ ?_ <;> first | kernel_rfl | (rw [isSubtype_type]; kernel_rfl)
theorem tyOk_tuple : TyOk "tuple" := by
  refine .of ?_ ?_ ?_ ?_ ?_ ?_ ?_ ?_ <;> first | kernel_rfl | (rw [isSubtype_type]; kernel_rfl)
theorem isT_ne {T : String} {x : PyData} (h : isT T x = false) : (Value.type (tyName x) == Value.type T) = false := by
  cases e : (Value.type (tyName x) == Value.type T) with
  | false => rfl
  | true =>
    have := eq_of_beq e
    cases this
    simp [isT] at h
theorem isinst_ok {A : Around} {s : Shared} {E : Value → Shared → Prop} {Q : Value → Shared → Prop} {T : String} {x : PyData} {u : Value} {as : List Addr} (hT : TyOk T) (r : RD prog w Hz s.heap u x as) (hi : instD x = false)
    (h : ∀ s', Keeps s s' → Q (.bool (isT T x)) s') : wpAny (model prog w) A (call (.builtin "isinstance") [u, .type T]) Q E s := by
  have hsub := hT.sub x
  cases e : isT T x with
  | true =>
    rw [e] at hsub h
    have hx : s.TypeIs u (tyName x) := by
      cases r with
      | none => rfl
      | bool => rfl
      | int => rfl
      | str => rfl
      | list a _ => exact ⟨_, a, rfl⟩
      | tuple a _ _ => exact ⟨_, a, rfl⟩
      | dict a _ _ _ => exact a.typeIs
      | val _ => cases hi
      | store _ _ => cases hi
      | inst _ _ _ _ _ => cases hi
    exact call_isinstance (isinstance_true hT.ty hsub) ⟨hx, h s (keeps_refl s)⟩
  | false =>
    rw [e] at hsub h
    have hne := isT_ne e
    have hq := h _ (keeps_toks s (s.toks + 1))
    cases r with
    | none => exact call_isinstance (isinstance_false_none hne hT.ty hsub) hq
    | bool b => exact call_isinstance (isinstance_false_bool hne hT.ty hsub) hq
    | int i t => exact call_isinstance (isinstance_false_int hne hT.ty hsub) hq
    | str x t => exact call_isinstance (isinstance_false_str hne hT.ty hsub) hq
    | list a _ => exact call_isinstance (isinstance_false_list hne hT.ty hsub) ⟨⟨_, a, rfl⟩, hq⟩
    | tuple a _ _ => exact call_isinstance (isinstance_false_tuple hne hT.ty hsub) ⟨⟨_, a, rfl⟩, hq⟩
    | dict a _ _ _ => exact call_isinstance (isinstance_false_dict hne hT.ty hsub) ⟨a.typeIs, hq⟩
    | val _ => cases hi
    | store _ _ => cases hi
    | inst _ _ _ _ _ => cases hi
theorem Ev.isinst {e : Expr} {T : String} {np tp pos : Pos} {m : Rho → Option V} (hT : TyOk T) (hx : isGlob sc "isinstance" = true) (hg : GName hb "isinstance" (.builtin "isinstance")) (hx' : isGlob sc T = true) (hg' : GName hb T (.type T)) (h : Ev prog w hb n sc e m)
    (he : ∀ env, starEach [e, .Name (Str.ofString T) tp] env = [(false, eval e env), (false, eval (.Name (Str.ofString T) tp) env)]) :
    Ev prog w hb n sc (.Call (.Name (Str.ofString "isinstance") np) [e, .Name (Str.ofString T) tp] [] pos) (fun ρ => (m ρ).bind fun v => isTo T v.x) := by
  intro A Hz env s₀ X C ρ O s v Q E hs hA I
  refine bindI fun v hv hm hQ => ?_
  unfold isTo at hm
  split at hm
  · cases hm
  rename_i hin
  (have e := si hm; subst e; clear hm)
  show wpAny _ _ (eval (.Name (Str.ofString "isinstance") np) env >>= fun f => callWith pos f [] (backTo pos (starEach [e, .Name (Str.ofString T) tp] env)) []) _ _ s
  refine wpAny_bind (eval_glob I (by rw [hs]; exact hx) hg ?_)
  rw [he]
  refine callWith_builtin rfl (evalArgs_plain (spliced_cons (h hs hA I hv fun u s₁ k₁ r₁ => ?_)))
  obtain ⟨as, rd, c, _⟩ := r₁
  refine spliced_cons (eval_glob (I.grow k₁) (by rw [hs]; exact hx') hg' (spliced_nil ?_))
  exact isinst_ok hT rd (by simpa using hin) fun s' k => hQ _ _ (keeps_trans k₁ k) Rep.bool

noncomputable def strsOf : List PyData → Option (List Str)
  | [] => some []
  | .str x :: xs => (strsOf xs).map (x :: ·)
  | _ :: _ => none
noncomputable def aJoin (sep : Str) (xs : List PyData) : Option PyData :=
  (strsOf xs).bind fun ts => if JoinOk sep ts = true ∧ wf (.str (Txt.join sep ts)) = true then some (.str (Txt.join sep ts)) else none
theorem strsOf_cons {x : PyData} {xs : List PyData} {ts : List Str} (h : strsOf (x :: xs) = some ts) : ∃ s ts', x = .str s ∧ strsOf xs = some ts' ∧ s :: ts' = ts := by
  cases x with
  | str s => obtain ⟨ts', h1, h2⟩ := Option.map_eq_some_iff.mp h; exact ⟨s, ts', rfl, h1, h2⟩
  | _ => exact no h
theorem RDs.strs {h : Heap} {vs : List Value} {xs : List PyData} {as : List Addr} {ts : List Str} (r : RDs prog w Hz h vs xs as) (e : strsOf xs = some ts) : ∃ l, vs = strValues l ∧ l.map (·.1) = ts := by
  refine RDs.ind (R := fun vs xs _ => ∀ ts, strsOf xs = some ts → ∃ l, vs = strValues l ∧ l.map (·.1) = ts) (fun ts e => ?_) (fun a _ r ts e => ?_) r ts e
  · (have e := si e; subst e; clear e); exact ⟨[], rfl, rfl⟩
  · obtain ⟨s, ts', rfl, h1, rfl⟩ := strsOf_cons e
    induction a.strI with | mk t => ?_
    obtain ⟨l, e1, e2⟩ := r ts' h1
    exact ⟨(s, t) :: l, by rw [e1]; rfl, by rw [← e2]; rfl⟩
theorem Ev.join {sep : Str} {k : Nat} {kp ap pos : Pos} {e : Expr} {m : Rho → Option V} (h : Ev prog w hb n sc e m) (hl : (ap.endLine == pos.line) = true) (he : ∀ env, starEach [e] env = [(false, eval e env)]) :
    Ev prog w hb n sc (.Call (.Attribute (.Constant (.str sep) k kp) (Str.ofString "join") ap) [e] [] pos) (fun ρ => (m ρ).bind fun v => (match v.x with | .list xs => aJoin sep xs | _ => none).map fun y => ⟨y, .d⟩) := by
  intro A Hz env s₀ X C ρ O s v Q E hs hA I
  refine bindI fun a ha hm hQ => ?_
  induction mapE hm with | mk y hy => ?_
  refine wpAny_Call_method rfl (by rw [he]; rfl) hl F.plainAttrs_str F.slot_str_join F.type_str_join ?_
  refine wpAny_mono (wpAny_Constant_str (x := sep) (Q := fun u s' => ∃ t, u = .str sep t ∧ Keeps s s') ⟨_, rfl, keeps_toks s _⟩) (fun u s₁ hu => ?_) fun _ _ e => e
  · obtain ⟨t, rfl, k₁⟩ := hu
    refine ⟨typeIs_str _ _ _, (fun _ e => nomatch e), ?_⟩
    rw [he]
    refine callWith_builtin rfl (evalArgs_plain (spliced_cons (h hs hA (I.grow k₁) ha fun u s₂ k₂ r₂ => spliced_nil ?_)))
    obtain ⟨as, rd, c, _⟩ := r₂
    split at hy
    · rename_i xs hx
      rw [hx] at rd
      obtain ⟨ts, h1, h2⟩ := bindE hy
      split at h2
      · rename_i hok
        (have e := si h2; subst e; clear h2)
        obtain ⟨_, _, _, _, q1, q2, a, r⟩ := rd.list_inv
        cases q1; cases q2
        · skip
          obtain ⟨l, rfl, e2⟩ := r.strs h1
          exact SC.join ⟨_, a, rfl, _, rfl⟩ e2 hok.1 fun t' k => hQ _ _ (keeps_trans k₁ (keeps_trans k₂ (keeps_toks _ _))) (Rep.str hok.2)
      · exact no h2
    · exact no hy
theorem S1.extend {x : String} {e : Expr} {p ap cp pos : Pos} {m : Rho → Option V} (h : Ev prog w hb n sc e m) (hv : isVar sc x = true) (he : ∀ env, starEach [e] env = [(false, eval e env)]) (hl : (ap.endLine == cp.line) = true)
    (hi : ∀ env : Env, env.scope = sc → interactive env = false) :
    S1 prog w hb n sc (.Expr (.Call (.Attribute (.Name (Str.ofString x) p) (Str.ofString "extend") ap) [e] [] cp) pos)
      (fun ρ => match ρ x with | some (.own (.lst xs)) => (m ρ).bind fun v => (match v.x with | .list ys => if v.fl = .d ∧ xs.length + ys.length ≤ sizeLine then some (.next (ρ.set x (.own (.lst (xs ++ ys))))) else none | _ => none) | _ => none) := by
  intro A Hz env s₀ X C ρ O s r Q E hs hA I hm hQ
  dsimp only at hm
  split at hm
  · rename_i xs hx
    obtain ⟨v, hv', hm⟩ := bindE hm
    split at hm
    · rename_i ys hy
      revert hm
      refine ifI fun hz hm => ?_
      · cases hm
        refine wpAny_Expr (wpAny_Call_method rfl (by rw [he]; rfl) hl F.plainAttrs_list F.slot_list_extend F.type_list_extend (I.owned (by rw [hs]; exact hv) hx (fun _ _ q => by cases q) fun a hO r => ?_)) (hi env hs)
        cases r with
        | lst a1 b c d =>
          rename_i vs k as
          refine ⟨⟨_, a1, rfl⟩, fun a' ea => by cases ea; exact ⟨_, a1, rfl⟩, ?_⟩
          rw [he]
          show wpAny _ _ (callWith cp (.builtin "list.extend") [.ref a] [(false, eval e env)] []) _ _ _
          refine P.extend_list (h hs hA I.toInF hv' fun u s₁ k₁ r₁ => ?_)
          have I₁ := I.grow k₁
          have a1' := keeps_grow k₁ _ _ a1
          rw [wf_list] at c
          have hlen := b.length
          obtain ⟨bs, rv, cv, ov⟩ := r₁
          rw [hy] at rv cv
          rw [hz.1] at ov
          obtain ⟨b', ws, k2, bs, q1, q2, b1, rvs⟩ := rv.list_inv
          cases q1; cases q2
          · skip
            have hlen2 := rvs.length
            rw [wf_list] at cv
            refine ⟨b', vs.toArray, ws.toArray, k, k2, by simp [hlen]; exact c.1, by simp [hlen, hlen2]; lia, PyProof.Rows.extend_door (by simp [hlen, hlen2]; lia), rfl, a1', b1, ?_⟩
            obtain ⟨k', ek⟩ := mapSeq_lst vs k (fun xs => xs ++ ws.toArray)
            have hnew : (s₁.heap.update a (Obj.mapSeq fun xs => xs ++ ws.toArray)).get? a = some (lstObj (vs ++ ws) k') := by
              rw [Heap.get?_update_self _ a1' rfl, ek]; simp
            refine hQ O _ (I₁.updOwn (tk := s₁.toks) hx hO (Heap.SameBut.update _ _ _) ⟨_, hnew, not_tup_lst _ _⟩ fun u' r' off => ?_) ((Step.of_grow (keeps_grow k₁)).trans (upd_step hO (Heap.SameBut.update _ _ _)))
            cases r' with
            | lst a2 b2 c2 d2 =>
              refine .lst (as := as ++ bs) hnew (((b.grow (keeps_grow k₁)).off off fun y hy => (d y hy).2).append (rvs.off off fun y hy => (ov y (.tail _ hy)).2)) (wf_list.mpr ⟨by simpa using hz.2, ?_⟩) ?_
              · rw [wfs_append, c.2]; simp [cv.2]
              · exact FlOk.append d fun y hy => ov y (.tail _ hy)
    · exact no hm
  · exact no hm

noncomputable def fnB (p : Program) (i : Nat) : List Stmt := match p.main.body[i]? with
  | some (.FunctionDef _ _ b _ _ _ _ _ _ _) => b
  | _ => []
noncomputable def fnS (p : Program) (i : Nat) : Scope := match p.main.body[i]? with
  | some (.FunctionDef _ _ _ _ _ _ s _ _ _) => s
  | _ => default
noncomputable def DefG (prog : Program) (w : World) (hb : Heap) (n : Nat) (x : String) (m : List PyData → Option PyData) : Prop :=
  ∃ a o fd, GName hb x (.ref a) ∧ hb.get? a = some o ∧ o.data = .func fd ∧ Fn prog w hb n a m
noncomputable def DefAt (hb : Heap) (x : String) (sc : Scope) (ps : List String) (body : List Stmt) : Prop := ∃ a, GName hb x (.ref a) ∧ DefOk hb a sc ps body
theorem Fn.mono {f : Addr} {m : List PyData → Option PyData} {k : Nat} (h : Fn prog w hb k f m) (hk : k ≤ n) : Fn prog w hb n f m := by
  intro A Hz s us xs as y Q E hA b rd hw hm hQ
  exact h (hA.mono hk) b rd hw hm hQ
theorem DefG.of {x : String} {ps : List String} {body : List Stmt} {m : Rho → Option Out} (D : DefAt hb x sc ps body) (h : St prog w hb n sc body m) (spec : List PyData → Option PyData) (hm : ∀ xs y, spec xs = some y → fnD ps m xs = some y) :
    DefG prog w hb (n + 1) x spec := by
  obtain ⟨a, g, D⟩ := D
  obtain ⟨fo, fd, args, ho, hd, _⟩ := D.there
  refine ⟨a, fo, fd, g, ho, hd, ?_⟩
  intro A Hz s us xs as y Q E hA b rd hw hy hQ
  exact Fn.def D h hA b rd hw (hm xs y hy) hQ
theorem Ev.def {x : String} {k : Nat} {es : List Expr} {np pos : Pos} {ms : Rho → Option (List V)} {m : List PyData → Option PyData} (h : DefG prog w hb k x m) (hes : Evs prog w hb n sc es ms) (hx : isGlob sc x = true) (hk : k ≤ n)
    (hstar : ∀ env : Env, (backTo pos (starEach es env)).any (·.1) = false) :
    Ev prog w hb n sc (.Call (.Name (Str.ofString x) np) es [] pos) (fun ρ => (ms ρ).bind fun vs => (m (vs.map (·.x))).map fun y => ⟨y, .d⟩) := by
  obtain ⟨a, o, fd, g, ho, hd, hf⟩ := h
  exact Ev.fn hx g ho hd hes (hf.mono hk) hstar
structure Bui (hb : Heap) : Prop where
  len : GName hb "len" (.builtin "len")
  isinstance : GName hb "isinstance" (.builtin "isinstance")
  range : GName hb "range" (.type "range")
  int : GName hb "int" (.type "int")
  bool : GName hb "bool" (.type "bool")
  str : GName hb "str" (.type "str")
  list : GName hb "list" (.type "list")
  tuple : GName hb "tuple" (.type "tuple")
theorem Ev.len {es : List Expr} {np pos : Pos} {ms : Rho → Option (List V)} (B : Bui hb) (hes : Evs prog w hb n sc es ms) (hx : isGlob sc "len" = true)
    (hstar : ∀ env : Env, (backTo pos (starEach es env)).any (·.1) = false) :
    Ev prog w hb n sc (.Call (.Name (Str.ofString "len") np) es [] pos) (fun ρ => (ms ρ).bind fun vs => match vs with | [v] => (aLen v.x).map fun y => ⟨y, .d⟩ | _ => none) :=
  Ev.call hx B.len (.inl ⟨_, rfl⟩) hes CallOk.len hstar
theorem Ev.listOf {es : List Expr} {np pos : Pos} {ms : Rho → Option (List V)} (B : Bui hb) (hes : Evs prog w hb n sc es ms) (hx : isGlob sc "list" = true)
    (hstar : ∀ env : Env, (backTo pos (starEach es env)).any (·.1) = false) :
    Ev prog w hb n sc (.Call (.Name (Str.ofString "list") np) es [] pos) (fun ρ => (ms ρ).bind fun vs => match vs with | [v] => (match v.x with | .list xs => some (V.newL xs v.fl) | .tuple xs => some (V.newL xs v.fl) | _ => none) | _ => none) :=
  Ev.call hx B.list (.inr (.inl ⟨_, rfl⟩)) hes CallOk.list hstar
theorem Ev.v {x : String} {pos : Pos} (hv : isVar sc x = true := by decide +kernel) : Ev prog w hb n sc (.Name (Str.ofString x) pos) (fun ρ => (ρ x).bind rdVar) := Ev.var hv
theorem Ev.s {x : Str} {k : Nat} {pos : Pos} (hx : wf (.str x) = true := by decide +kernel) : Ev prog w hb n sc (.Constant (.str x) k pos) (fun _ => some ⟨.str x, .d⟩) := Ev.cstr hx
theorem S1.assignCompC {x : String} {elt tgt iter : Expr} {ifs : List Expr} {scope : Scope} {p cpos pos : Pos} {locs : List String} {mi : Rho → Option (List PyData × Fl)} {bind : V → Rho → Option Rho} {mt : Rho → Option Bool} {me : Rho → Option V} (ok : compOk scope sc locs = true)
    (hi : It prog w hb n sc tgt iter mi) (ht : TgL prog w hb (relS scope sc) locs tgt bind) (hif : Ifs prog w hb n (relS scope sc) ifs mt) (he : Ev prog w hb n (relS scope sc) elt me) (hsw : swapB sc scope x p.line cpos.line = false) (hk : sc.kind = .function) (hv : isVar sc x = true) :
    S1 prog w hb n sc (.Assign [.Name (Str.ofString x) p] (.ListComp elt [⟨tgt, iter, ifs, 0⟩] scope cpos) pos) (fun ρ => (compV mi locs bind mt me ρ).map fun ys => .next (ρ.set x (.val ⟨.list ys, .d⟩))) := by
  have h := S1.assign (x := x) (p := p) (pos := pos) (Ev.comp (pos := cpos) ok hi ht hif he) hv (fun env h => by rw [swaps_eq h hk, hsw])
  intro A Hz env s₀ X C ρ O s r Q E hs hA I hm hQ
  induction mapE hm with | mk ys hys => ?_
  exact h hs hA I (by dsimp only; rw [hys]; rfl) hQ
end

section

theorem small_of {a : Int} (h1 : -(2 ^ 64) < a) (h2 : a < 2 ^ 64) : smallInt a = true := by
  unfold smallInt; exact decide_eq_true (intBits_le_64 h1 h2)
noncomputable def S (l : List Nat) : Str := ⟨l.toArray⟩
theorem S_length (l : List Nat) : (S l).length = l.length := by simp [S, Str.length]
theorem S_append (a b : List Nat) : S a ++ S b = S (a ++ b) := by
  show Str.append _ _ = _; simp [S, Str.append]
theorem S_wf {l : List Nat} (h1 : l.length ≤ sizeLine) (h2 : ∀ c ∈ l, c < 0x110000) : wf (.str (S l)) = true := by
  rw [wf_str, S_length]
  refine ⟨?_, h1⟩
  unfold PyData.strOk S
  rw [Array.all_eq_true']
  intro c hc
  simpa using h2 c (by simpa using hc)
theorem glue_empty : ∀ ts : List (List Nat), Txt.join Str.empty (ts.map S) = S ts.flatten := by
  intro ts
  show Builtin.Str.glued Str.empty (ts.map S) = _
  rw [StrLaws.glued_eq_join]
  induction ts with
  | nil => rfl
  | cons a ts ih =>
    induction ts with
    | nil => simp [Str.join]
    | cons b ts =>
      show S a ++ Str.empty ++ Str.join Str.empty ((b :: ts).map S) = _
      rw [ih, show Str.empty = S [] from rfl, S_append, S_append]; simp
theorem strsOf_map : ∀ ts : List Str, strsOf (ts.map .str) = some ts
  | [] => rfl
  | t :: ts => by simp [strsOf, strsOf_map ts]
theorem join_ok {ts : List (List Nat)} (h1 : ts.flatten.length ≤ 1000) (h2 : ts.length ≤ 1000) (h3 : ∀ t ∈ ts, ∀ c ∈ t, c < 0x110000) : aJoin Str.empty (ts.map fun t => .str (S t)) = some (.str (S ts.flatten)) := by
  have e : (ts.map fun t => PyData.str (S t)) = (ts.map S).map .str := by simp
  unfold aJoin
  rw [e, strsOf_map]
  simp only [Option.bind_some]
  rw [glue_empty]
  refine if_pos ⟨?_, S_wf (Nat.le_trans h1 (by decide)) fun c hc => ?_⟩
  · have hs : ((ts.map S).map (·.length)).sum = ts.flatten.length := by
      rw [List.length_flatten, List.map_map]
      exact congrArg _ (List.map_congr_left fun t _ => S_length t)
    unfold JoinOk Builtin.Str.tooLong
    rw [StrLaws.joinTotal, hs]
    have hz : Str.empty.length = 0 := rfl
    have hl : (1000 : Nat) ≤ sizeLine := by decide
    rw [hz, Nat.mul_zero, Nat.add_zero, Bool.not_eq_true', decide_eq_false_iff_not]
    lia
  · obtain ⟨t, ht, hc⟩ := List.mem_flatten.mp hc
    exact h3 t ht c hc
theorem pick_run {α : Type} (xs : List α) (a : Nat) : ∀ n, a + n ≤ xs.length → ((List.range n).map (fun k => a + k)).filterMap (xs[·]?) = (xs.drop a).take n
  | 0, _ => by simp
  | n + 1, h => by
    rw [List.range_succ, List.map_append, List.filterMap_append, pick_run xs a n (by lia), List.take_add_one]
    congr 1
    rw [List.getElem?_drop, List.map_cons, List.map_nil, List.filterMap_cons, List.filterMap_nil]
    rw [List.getElem?_eq_getElem (by lia)]; rfl
theorem pick_range {α : Type} (xs : List α) (a b : Nat) (hb : b ≤ xs.length) : ((List.range (b - a)).map (fun k => a + k)).filterMap (xs[·]?) = (xs.take b).drop a := by
  rw [List.drop_take]
  by_cases h : a ≤ b
  · exact pick_run xs a (b - a) (by lia)
  · rw [show b - a = 0 by lia]; simp
theorem sliceRange_one (a b : Nat) : sliceRange (a : Int) (b : Int) 1 = (List.range (b - a)).map fun k => a + k := by
  unfold sliceRange
  simp only [show (1 : Int) > 0 by decide, if_true]
  split
  · have : ((b : Int) - a + 1 - 1) / 1 = ((b - a : Nat) : Int) := by rw [Int.ediv_one]; lia
    rw [this, Int.toNat_natCast]
    exact List.map_congr_left fun k _ => by lia
  · have : b - a = 0 := by lia
    rw [this]; rfl
noncomputable def clipLo (v : Option Int) (n : Nat) : Nat := match v with
  | none => 0
  | some i => if i < 0 then (i + n).toNat else min i.toNat n
noncomputable def clipHi (v : Option Int) (n : Nat) : Nat := match v with
  | none => n
  | some i => if i < 0 then (i + n).toNat else min i.toNat n
theorem clipHi_le (v : Option Int) (n : Nat) : clipHi v n ≤ n := by
  unfold clipHi; split
  · exact Nat.le_refl _
  · split <;> lia
theorem clipLo_le (v : Option Int) (n : Nat) : clipLo v n ≤ n := by
  unfold clipLo; split
  · exact Nat.zero_le _
  · split <;> lia
theorem clip_neg {i : Int} {n : Nat} (h : i < 0) : max 0 (min (i + n) n) = (((i + n).toNat : Nat) : Int) := by
  rw [Int.min_eq_left (by lia), Int.toNat_eq_max, Int.max_comm]
theorem clip_pos {i : Int} {n : Nat} (h : ¬ i < 0) : max 0 (min i n) = ((min i.toNat n : Nat) : Int) := by
  have h' : 0 ≤ i := by lia
  rw [Int.max_eq_right (Int.le_min.mpr ⟨h', Int.natCast_nonneg _⟩)]
  rcases Int.le_total i n with q | q
  · rw [Int.min_eq_left q, Nat.min_eq_left (Int.toNat_le.mpr q), Int.toNat_of_nonneg h']
  · rw [Int.min_eq_right q, Nat.min_eq_right ((Int.le_toNat h').mpr q)]
theorem sliceIdx_eq (lo hi : Option Int) (n : Nat) : sliceIdx lo hi none n = (List.range (clipHi hi n - clipLo lo n)).map fun k => clipLo lo n + k := by
  rw [← sliceRange_one]
  unfold sliceIdx sliceBounds
  simp only [Option.getD_none, show (1 : Int) > 0 by decide, if_true]
  congr 1
  · cases lo with
    | none => rfl
    | some i =>
      simp only [clipLo]
      split
      · exact clip_neg ‹_›
      · exact clip_pos ‹_›
  · cases hi with
    | none => rfl
    | some i =>
      simp only [clipHi]
      split
      · exact clip_neg ‹_›
      · exact clip_pos ‹_›
theorem slice_list (lo hi : Option Int) (xs : List PyData) : aSlice lo hi none (.list xs) = some (.list ((xs.take (clipHi hi xs.length)).drop (clipLo lo xs.length))) := by
  show (if (none : Option Int) = some 0 then none else some (PyData.list ((sliceIdx lo hi none xs.length).filterMap (xs[·]?)))) = _
  rw [if_neg (by simp), sliceIdx_eq, pick_range _ _ _ (clipHi_le _ _)]
theorem strSlice_eq (lo hi : Option Int) (n : Nat) : Builtin.Str.strSliceIndices lo hi 1 n = (List.range (clipHi hi n - clipLo lo n)).map fun k => clipLo lo n + k := by
  rw [← sliceRange_one]
  unfold Builtin.Str.strSliceIndices
  simp only [show (1 : Int) > 0 by decide, if_true]
  congr 1
  · cases lo with
    | none => rfl
    | some i =>
      simp only [clipLo]
      split
      · exact clip_neg ‹_›
      · exact clip_pos ‹_›
  · cases hi with
    | none => rfl
    | some i =>
      simp only [clipHi]
      split
      · exact clip_neg ‹_›
      · exact clip_pos ‹_›
theorem slice_str (lo hi : Option Int) (l : List Nat) : aSlice lo hi none (.str (S l)) = some (.str (S ((l.take (clipHi hi l.length)).drop (clipLo lo l.length)))) := by
  unfold aSlice
  simp only [Option.getD_none, show ((1 : Int) = 0) = False by simp, if_false]
  rw [strSlice_eq, S_length]
  congr 2
  split
  · rename_i h
    have h2 := h.2
    simp at h2
    have := clipHi_le hi l.length
    have := clipLo_le lo l.length
    rw [show clipLo lo l.length = 0 by lia, show clipHi hi l.length = l.length by lia]; simp
  · have e := pick_range l (clipLo lo l.length) (clipHi hi l.length) (clipHi_le _ _)
    rw [← e]; unfold S; simp
noncomputable def cstep (bind : V → Rho → Option Rho) (test : Rho → Option Bool) (elt : Rho → Option V) (ρ : Rho) (x : PyData) : Option (Option PyData) :=
  (bind (V.fix x .s) ρ).bind fun ρ₁ => (test ρ₁).bind fun c => if c then (elt ρ₁).bind fun v => if v.fl = .d then some (some v.x) else none else some none
theorem compD_eq {bind : V → Rho → Option Rho} {test : Rho → Option Bool} {elt : Rho → Option V} {ρ : Rho} (f : PyData → Option PyData) : ∀ {xs : List PyData}, (∀ x ∈ xs, cstep bind test elt ρ x = some (f x)) → compD bind test elt ρ xs = some (xs.filterMap f)
  | [], _ => rfl
  | x :: xs, h => by
    have h1 := h x (.head _)
    have ih := compD_eq f fun y hy => h y (.tail _ hy)
    unfold cstep at h1
    obtain ⟨ρ₁, e1, h1⟩ := bindE h1
    obtain ⟨c, e2, h1⟩ := bindE h1
    unfold compD
    rw [e1]
    simp only [Option.bind_some, e2]
    induction c with
    | false =>
      simp only [Bool.false_eq_true, if_false] at h1 ⊢
      rw [List.filterMap_cons, ← (Option.some.inj h1), ih]
    | true =>
      simp only [if_true] at h1 ⊢
      obtain ⟨v, e3, h1⟩ := bindE h1
      rw [e3]
      simp only [Option.bind_some]
      split at h1
      · rename_i hf
        rw [if_pos hf, ih, List.filterMap_cons, ← Option.some.inj h1]; rfl
      · exact no h1
theorem forD_inv {bind : V → Rho → Option Rho} {body : Rho → Option Out} {f : Fl} {xs : List PyData} (P : Nat → Rho → Prop) : ∀ {ρ : Rho}, P 0 ρ →
    (∀ i x ρ, xs[i]? = some x → P i ρ → ∃ ρ₁ ρ', bind (V.fix x f) ρ = some ρ₁ ∧ body ρ₁ = some (.next ρ') ∧ P (i + 1) ρ') → ∃ ρ', forD bind body f xs ρ = some (.next ρ') ∧ P xs.length ρ' := by
  induction xs generalizing P with
  | nil => exact fun {ρ} h _ => ⟨ρ, rfl, h⟩
  | cons x xs ih =>
    intro ρ h0 hs
    obtain ⟨ρ₁, ρ₂, e1, e2, h1⟩ := hs 0 x ρ rfl h0
    obtain ⟨ρ', e3, h3⟩ := ih (fun i => P (i + 1)) h1 fun i y ρ hy hp => hs (i + 1) y ρ (by simpa using hy) hp
    refine ⟨ρ', ?_, h3⟩
    unfold forD
    rw [e1]; simp only [Option.bind_some, e2]; exact e3
theorem rangeOf_get {k : Int} {i : Nat} {x : PyData} (h : (rangeOf k)[i]? = some x) : (i : Int) < k ∧ x = .int i := by
  unfold rangeOf at h
  rw [List.getElem?_map] at h
  induction mapE h with | mk j e1 => ?_
  have := List.getElem?_eq_some_iff.mp e1
  obtain ⟨h1, h2⟩ := this
  simp at h1 h2
  subst h2
  exact ⟨by lia, rfl⟩
theorem rangeOf_len (k : Int) : (rangeOf k).length = k.toNat := by simp [rangeOf]
theorem rangeOf_mem {k : Int} {x : PyData} (h : x ∈ rangeOf k) : ∃ i : Nat, (i : Int) < k ∧ x = .int i := by
  obtain ⟨i, e⟩ := List.getElem?_of_mem h
  obtain ⟨h1, h2⟩ := rangeOf_get e
  exact ⟨i, h1, h2⟩
theorem comp_range {bind : V → Rho → Option Rho} {test : Rho → Option Bool} {elt : Rho → Option V} {ρ : Rho} {k : Int} (g : Nat → PyData) (h : ∀ i : Nat, (i : Int) < k → cstep bind test elt ρ (.int i) = some (some (g i))) :
    compD bind test elt ρ (rangeOf k) = some ((List.range k.toNat).map g) := by
  rw [compD_eq (fun x => match x with | .int i => some (g i.toNat) | _ => none) fun x hx => ?_]
  · unfold rangeOf
    rw [List.filterMap_map]
    congr 1
    generalize List.range k.toNat = l
    induction l with
    | nil => rfl
    | cons a l ih => rw [List.filterMap_cons]; simp only [Function.comp, Int.toNat_natCast, List.map_cons]; rw [← ih]
  · obtain ⟨i, hi, rfl⟩ := rangeOf_mem hx
    simpa using h i hi
theorem fdiv_pos {a b : Int} (h : 0 < b) : a.fdiv b = a / b := Int.fdiv_eq_ediv_of_nonneg a (Int.le_of_lt h)
theorem fmod_pos {a b : Int} (h : 0 < b) : a.fmod b = a % b := Int.fmod_eq_emod_of_nonneg a (Int.le_of_lt h)
end

section

section
variable {f g : Fl} {a b : Int} {x y : Str} {xs ys : List PyData} {ρ : Rho} {s t : String} {vv : VV} {v : V}
theorem e_add : aBinV .Add ⟨.int a, f⟩ ⟨.int b, g⟩ = some ⟨.int (a + b), .d⟩ := rfl
theorem e_sub : aBinV .Sub ⟨.int a, f⟩ ⟨.int b, g⟩ = some ⟨.int (a - b), .d⟩ := rfl
theorem e_mul (h : smallInt a = true ∨ smallInt b = true) : aBinV .Mult ⟨.int a, f⟩ ⟨.int b, g⟩ = some ⟨.int (a * b), .d⟩ := by
  have : aBin .Mult (.int a) (.int b) = some (.int (a * b)) := by show (if _ then _ else _) = _; rw [if_pos (by simpa using h)]
  unfold aBinV; rw [this]; rfl
theorem e_mul_l (h1 : -18446744073709551616 < a) (h2 : a < 18446744073709551616) : aBinV .Mult ⟨.int a, f⟩ ⟨.int b, g⟩ = some ⟨.int (a * b), .d⟩ := e_mul (.inl (small_of h1 h2))
theorem e_mul_r (h1 : -18446744073709551616 < b) (h2 : b < 18446744073709551616) : aBinV .Mult ⟨.int a, f⟩ ⟨.int b, g⟩ = some ⟨.int (a * b), .d⟩ := e_mul (.inr (small_of h1 h2))
theorem e_div (h : 0 < b) : aBinV .FloorDiv ⟨.int a, f⟩ ⟨.int b, g⟩ = some ⟨.int (a / b), .d⟩ := by
  have : aBin .FloorDiv (.int a) (.int b) = some (.int (a / b)) := by show Option.map PyData.int (if b = 0 then none else some (a.fdiv b)) = _; rw [if_neg (by lia), fdiv_pos h]; rfl
  unfold aBinV; rw [this]; rfl
theorem e_mod (h : 0 < b) : aBinV .Mod ⟨.int a, f⟩ ⟨.int b, g⟩ = some ⟨.int (a % b), .d⟩ := by
  have : aBin .Mod (.int a) (.int b) = some (.int (a % b)) := by show Option.map PyData.int (if b = 0 then none else some (a.fmod b)) = _; rw [if_neg (by lia), fmod_pos h]; rfl
  unfold aBinV; rw [this]; rfl
theorem e_adds (h : x.length + y.length ≤ sizeLine) : aBinV .Add ⟨.str x, f⟩ ⟨.str y, g⟩ = some ⟨.str (x ++ y), .d⟩ := by
  have : aBin .Add (.str x) (.str y) = some (.str (x ++ y)) := by show (if _ then _ else _) = _; rw [if_pos h]
  unfold aBinV; rw [this]; rfl
theorem e_addl (h : xs.length + ys.length ≤ sizeLine) : aBinV .Add ⟨.list xs, f⟩ ⟨.list ys, g⟩ = some (V.newL (xs ++ ys) (f.join g)) := by
  have : aBin .Add (.list xs) (.list ys) = some (.list (xs ++ ys)) := by show (if _ then _ else _) = _; rw [if_pos h]
  unfold aBinV; rw [this]; rfl
theorem e_set : (ρ.set s vv) t = bif t == s then some vv else ρ t := rfl
theorem e_rho_nil : rho0 [] [] t = none := rfl
theorem e_rho {ps : List String} {z : PyData} : rho0 (s :: ps) (z :: xs) t = bif t == s then some (.val (V.fix z .s)) else rho0 ps xs t := rfl
theorem e_fint : V.fix (.int a) f = ⟨.int a, .d⟩ := rfl
theorem e_fstr : V.fix (.str x) f = ⟨.str x, .d⟩ := rfl
theorem e_flist : V.fix (.list xs) f = ⟨.list xs, f⟩ := by simp [V.fix, flat]
theorem e_ftup (h : flats xs = true) : V.fix (.tuple xs) f = ⟨.tuple xs, .d⟩ := by simp [V.fix, flat, h]
theorem e_rv : rdVar (.val v) = some v := rfl
theorem e_rl : rdVar (.own (.lst xs)) = some ⟨.list xs, .t⟩ := rfl
theorem e_rd {kvs : List (Str × PyData)} : rdVar (.own (.dct kvs)) = some ⟨dictOf kvs, .t⟩ := rfl
theorem e_putd {z : PyData} : putV ρ s ⟨z, .d⟩ = some (.next (ρ.set s (.val ⟨z, .d⟩))) := rfl
theorem e_putRd {z : PyData} : putR s ⟨z, .d⟩ ρ = some (ρ.set s (.val ⟨z, .d⟩)) := rfl
theorem e_tup : tupOf ⟨.tuple xs, f⟩ = some (xs.map fun z => V.fix z f) := rfl
theorem e_putn : putRs [] [] ρ = some ρ := rfl
theorem e_putc {ns : List String} {vs : List V} : putRs (s :: ns) (v :: vs) ρ = (putR s v ρ).bind (putRs ns vs) := rfl
theorem e_thn {m : Rho → Option Out} : thenB m (.next ρ) = m ρ := rfl
theorem e_thr {m : Rho → Option Out} {z : PyData} : thenB m (.ret z) = some (.ret z) := rfl
theorem e_ret {x : PyData} : retV ⟨x, .d⟩ = some (.ret x) := rfl
theorem e_lt : aCmp .Lt (.int a) (.int b) = some (decide (a < b)) := rfl
theorem e_le : aCmp .LtE (.int a) (.int b) = some (decide (a ≤ b)) := rfl
theorem e_gt : aCmp .Gt (.int a) (.int b) = some (decide (a > b)) := rfl
theorem e_eqi : aCmp .Eq (.int a) (.int b) = some (a == b) := rfl
theorem e_nei : aCmp .NotEq (.int a) (.int b) = some (!(a == b)) := rfl
theorem e_eqs : aCmp .Eq (.str x) (.str y) = some (x == y) := rfl
theorem e_nes : aCmp .NotEq (.str x) (.str y) = some (!(x == y)) := rfl
theorem e_is {z : PyData} : aCmp .Is z .none = some (isNone z) := rfl
theorem e_isnot {z : PyData} : aCmp .IsNot z .none = some (!isNone z) := rfl
theorem e_len_l : aLen (.list xs) = some (.int xs.length) := rfl
theorem e_len_t : aLen (.tuple xs) = some (.int xs.length) := rfl
theorem e_len_s : aLen (.str x) = some (.int x.length) := rfl
theorem e_tb {c : Bool} : aTruth (.bool c) = some c := rfl
end
theorem e_inc {locs : List String} {ρ : Rho} {t : String} : inComp locs ρ t = bif memS locs t then none else (ρ t).bind fun vv => (rdVar vv).map fun v => .val (V.fix v.x .s) := rfl
theorem e_idx_s {l : List Nat} {k : Int} : aIdx (.str (S l)) (.int k) = (seqAt l k).map fun c => .str (S [c]) := by
  rfl
theorem e_idx_l {xs : List PyData} {k : Int} : aIdx (.list xs) (.int k) = seqAt xs k := rfl
theorem e_idx_t {xs : List PyData} {k : Int} : aIdx (.tuple xs) (.int k) = seqAt xs k := rfl
theorem seqAt_nat {α : Type} {xs : List α} {k : Int} (h : 0 ≤ k) : seqAt xs k = xs[k.toNat]? := if_pos h
theorem le_line {n : Nat} (h : n ≤ 1000) : n ≤ sizeLine := Nat.le_trans h (by decide)
theorem le_lineI {n : Int} (h : n ≤ 1000) : n ≤ (sizeLine : Int) := Int.le_trans h (by decide)
theorem rng_lo {k : Int} (h : 0 ≤ k) : -4611686018427387904 ≤ k := by lia
theorem fls_nil : flsOf [] = .d := rfl
theorem fls_d {x : PyData} {vs : List V} : flsOf (⟨x, .d⟩ :: vs) = flsOf vs := by
  show Fl.join .d (flsOf vs) = _
  cases flsOf vs <;> rfl
theorem newL_d {xs : List PyData} : V.newL xs .d = ⟨.list xs, .d⟩ := by unfold V.newL; split <;> rfl
theorem flat1 {α β : Type} (f : α → β) : ∀ l : List α, (l.map fun j => [f j]).flatten = l.map f
  | [] => rfl
  | a :: l => by rw [List.map_cons, List.flatten_cons, flat1 f l]; rfl
theorem e_sls {lo hi : Option Int} {l : List Nat} {f : Fl} : aSliceV lo hi none ⟨.str (S l), f⟩ = some ⟨.str (S ((l.take (clipHi hi l.length)).drop (clipLo lo l.length))), .d⟩ := by
  unfold aSliceV; rw [slice_str]; rfl
theorem e_sll {lo hi : Option Int} {l : List PyData} {f : Fl} : aSliceV lo hi none ⟨.list l, f⟩ = some (V.newL ((l.take (clipHi hi l.length)).drop (clipLo lo l.length)) f) := by
  unfold aSliceV; rw [slice_list]; rfl
theorem hi_some {i : Int} {n : Nat} (h : 0 ≤ i) (h' : i ≤ n) : clipHi (some i) n = i.toNat := by
  simp only [clipHi]; rw [if_neg (by lia)]; lia
theorem lo_some {i : Int} {n : Nat} (h : 0 ≤ i) (h' : i ≤ n) : clipLo (some i) n = i.toNat := by
  simp only [clipLo]; rw [if_neg (by lia)]; lia
theorem hi_none {n : Nat} : clipHi none n = n := rfl
theorem lo_none {n : Nat} : clipLo none n = 0 := rfl
theorem e_addS {a b : List Nat} {f g : Fl} (h : a.length + b.length ≤ 1000) : aBinV .Add ⟨.str (S a), f⟩ ⟨.str (S b), g⟩ = some ⟨.str (S (a ++ b)), .d⟩ := by
  rw [e_adds (by rw [S_length, S_length]; exact le_line h), S_append]
noncomputable def letters : List Nat := (List.range 26).map (97 + ·)
theorem letters_eq : Str.ofString "abcdefghijklmnopqrstuvwxyz" = S letters := by decide +kernel
theorem empty_eq : Str.ofString "" = Str.empty := by decide +kernel
theorem letters_at {i : Int} (h0 : 0 ≤ i) (h1 : i < 26) : seqAt letters i = some (97 + i.toNat) := by
  rw [seqAt_nat h0]; unfold letters
  rw [List.getElem?_map, List.getElem?_range (by lia)]; rfl
noncomputable def run (m : Rho → Option Out) (ρ : Rho) : Option Out := m ρ
noncomputable def tst (m : Rho → Option Bool) (ρ : Rho) : Option Bool := m ρ
theorem tst_eq {m : Rho → Option Bool} {ρ : Rho} : tst m ρ = m ρ := rfl
noncomputable def evl (m : Rho → Option V) (ρ : Rho) : Option V := m ρ
theorem evl_eq {m : Rho → Option V} {ρ : Rho} : evl m ρ = m ρ := rfl
noncomputable def itr (m : Rho → Option (List PyData × Fl)) (ρ : Rho) : Option (List PyData × Fl) := m ρ
theorem itr_eq {m : Rho → Option (List PyData × Fl)} {ρ : Rho} : itr m ρ = m ρ := rfl
theorem run_eq {m : Rho → Option Out} {ρ : Rho} : run m ρ = m ρ := rfl
theorem seq {x m' : Rho → Option Out} {ρ ρ₁ : Rho} {o : Out} (h : run x ρ = some (.next ρ₁)) (h' : run m' ρ₁ = some o) : run (fun ρ => (x ρ).bind (thenB m')) ρ = some o := by
  show (run x ρ).bind (thenB m') = _; rw [h]; exact h'
theorem seqRet {x m' : Rho → Option Out} {ρ : Rho} {y : PyData} (h : run x ρ = some (.ret y)) : run (fun ρ => (x ρ).bind (thenB m')) ρ = some (.ret y) := by
  show (run x ρ).bind (thenB m') = _; rw [h]; rfl
theorem fn_ret {ps : List String} {m : Rho → Option Out} {xs : List PyData} {y : PyData} (hl : xs.length = ps.length) (h : run m (rho0 ps xs) = some (.ret y)) : fnD ps m xs = some y := by
  unfold fnD; rw [if_pos hl, show m (rho0 ps xs) = some (.ret y) from h]; rfl
end

section
section
variable {x m' : Rho → Option Out} {ρ ρ₁ : Rho} {o : Out} {P Q : Rho → Prop}
theorem seqE (P : Rho → Prop) (h : ∃ ρ₁, run x ρ = some (.next ρ₁) ∧ P ρ₁) (h' : ∀ ρ₁, P ρ₁ → run m' ρ₁ = some o) : run (fun ρ => (x ρ).bind (thenB m')) ρ = some o := by
  obtain ⟨ρ₁, h, p⟩ := h; exact seq h (h' ρ₁ p)
theorem seqN (h : run x ρ = some (.next ρ₁)) (h' : ∃ ρ₂, run m' ρ₁ = some (.next ρ₂) ∧ Q ρ₂) : ∃ ρ₂, run (fun ρ => (x ρ).bind (thenB m')) ρ = some (.next ρ₂) ∧ Q ρ₂ := by
  obtain ⟨ρ₂, h', q⟩ := h'; exact ⟨ρ₂, seq h h', q⟩
theorem seqX (P : Rho → Prop) (h : ∃ ρ₁, run x ρ = some (.next ρ₁) ∧ P ρ₁) (h' : ∀ ρ₁, P ρ₁ → ∃ ρ₂, run m' ρ₁ = some (.next ρ₂) ∧ Q ρ₂) : ∃ ρ₂, run (fun ρ => (x ρ).bind (thenB m')) ρ = some (.next ρ₂) ∧ Q ρ₂ := by
  obtain ⟨ρ₁, h, p⟩ := h; exact seqN h (h' ρ₁ p)
theorem doneN (h : Q ρ) : ∃ ρ₂, run (fun ρ => some (.next ρ)) ρ = some (.next ρ₂) ∧ Q ρ₂ := ⟨ρ, rfl, h⟩
theorem forD_inv' {bind : V → Rho → Option Rho} {body : Rho → Option Out} {f : Fl} {xs : List PyData} (P : Nat → Rho → Prop) {ρ : Rho} (h0 : P 0 ρ)
    (hs : ∀ i x ρ, xs[i]? = some x → P i ρ → ∃ ρ₁, bind (V.fix x f) ρ = some ρ₁ ∧ ∃ ρ', run body ρ₁ = some (.next ρ') ∧ P (i + 1) ρ') : ∃ ρ', forD bind body f xs ρ = some (.next ρ') ∧ P xs.length ρ' :=
  forD_inv P h0 fun i x ρ hx hp => let ⟨a, b, c, d, e⟩ := hs i x ρ hx hp; ⟨a, c, b, d, e⟩
theorem for_run {mi : Rho → Option (List PyData × Fl)} {bind : V → Rho → Option Rho} {mb : Rho → Option Out} {ρ : Rho} (xs : List PyData) (f : Fl) (hi : itr mi ρ = some (xs, f)) (hf : f ≠ .t) (h : ∃ ρ', forD bind mb f xs ρ = some (.next ρ') ∧ Q ρ') :
    ∃ ρ', run (fun ρ => (mi ρ).bind fun v => if v.2 = .t then none else forD bind mb v.2 v.1 ρ) ρ = some (.next ρ') ∧ Q ρ' := by
  dsimp only [run]; rw [show mi ρ = _ from hi]; simp only [Option.bind_some, if_neg hf]; exact h
theorem ifR_yes {mt : Rho → Option Bool} {a b : Rho → Option Out} {o : Out} (ht : tst mt ρ = some true) (h : run a ρ = some o) : run (fun ρ => (mt ρ).bind fun c => if c then a ρ else b ρ) ρ = some o := by
  dsimp only [run]; rw [show mt ρ = _ from ht]; exact h
theorem ifR_no {mt : Rho → Option Bool} {a b : Rho → Option Out} {o : Out} (ht : tst mt ρ = some false) (h : run b ρ = some o) : run (fun ρ => (mt ρ).bind fun c => if c then a ρ else b ρ) ρ = some o := by
  dsimp only [run]; rw [show mt ρ = _ from ht]; exact h
theorem if_yes {mt : Rho → Option Bool} {a b : Rho → Option Out} (ht : tst mt ρ = some true) (h : ∃ ρ', run a ρ = some (.next ρ') ∧ Q ρ') : ∃ ρ', run (fun ρ => (mt ρ).bind fun c => if c then a ρ else b ρ) ρ = some (.next ρ') ∧ Q ρ' := by
  obtain ⟨ρ', h, q⟩ := h; exact ⟨ρ', ifR_yes ht h, q⟩
theorem if_no {mt : Rho → Option Bool} {a b : Rho → Option Out} (ht : tst mt ρ = some false) (h : ∃ ρ', run b ρ = some (.next ρ') ∧ Q ρ') : ∃ ρ', run (fun ρ => (mt ρ).bind fun c => if c then a ρ else b ρ) ρ = some (.next ρ') ∧ Q ρ' := by
  obtain ⟨ρ', h, q⟩ := h; exact ⟨ρ', ifR_no ht h, q⟩
theorem range_snoc {α : Type} (f : Nat → α) (n : Nat) : (List.range (n + 1)).map f = (List.range n).map f ++ [f n] := by rw [List.range_succ, List.map_append]; rfl
theorem map_range_get {α : Type} (f : Nat → α) {n i : Nat} (h : i < n) : ((List.range n).map f)[i]? = some (f i) := by rw [List.getElem?_map, List.getElem?_range h]; rfl
theorem fl_nil : flats [] = true := rfl
theorem fl_str {a : Str} {xs : List PyData} : flats (.str a :: xs) = flats xs := by simp [flats, flat]
theorem fl_none {xs : List PyData} : flats (.none :: xs) = flats xs := by simp [flats, flat]
theorem fix_d {x : PyData} : V.fix x .d = ⟨x, .d⟩ := by unfold V.fix; split <;> rfl
section
variable {bind : V → Rho → Option Rho} {test : Rho → Option Bool} {elt : Rho → Option V} {ρ : Rho} {α : Type}
theorem compD_cons {y : PyData} {ys zs : List PyData} {r : Option PyData} (h : cstep bind test elt ρ y = some r) (h' : compD bind test elt ρ ys = some zs) : compD bind test elt ρ (y :: ys) = some (r.elim zs (fun z => z :: zs)) := by
  unfold cstep at h
  obtain ⟨ρ₁, e1, h⟩ := bindE h
  obtain ⟨c, e2, h⟩ := bindE h
  unfold compD
  rw [e1]
  simp only [Option.bind_some, e2]
  induction c with
  | false =>
    simp only [Bool.false_eq_true, if_false] at h ⊢
    rw [← (Option.some.inj h)]; exact h'
  | true =>
    simp only [if_true] at h ⊢
    obtain ⟨v, e3, h⟩ := bindE h
    rw [e3]
    simp only [Option.bind_some]
    split at h
    · rename_i hf
      rw [if_pos hf, h', ← Option.some.inj h]; rfl
    · exact no h
theorem comp_enc (enc : α → PyData) (f : α → Option PyData) : ∀ {xs : List α}, (∀ a ∈ xs, cstep bind test elt ρ (enc a) = some (f a)) → compD bind test elt ρ (xs.map enc) = some (xs.filterMap f)
  | [], _ => rfl
  | a :: xs, h => by
    rw [List.map_cons, compD_cons (h a (.head _)) (comp_enc enc f fun b hb => h b (.tail _ hb)), List.filterMap_cons]
    generalize f a = r
    cases r <;> rfl
theorem comp_map (enc g : α → PyData) {xs : List α} (h : ∀ a ∈ xs, cstep bind test elt ρ (enc a) = some (some (g a))) : compD bind test elt ρ (xs.map enc) = some (xs.map g) := by
  rw [comp_enc enc (fun a => some (g a)) h]; simp
end
end
end

section
mutual
theorem eqv_self : ∀ x : PyData, nd x = true → PyData.eqv x x = true
  | .none, _ => by simp [PyData.eqv]
  | .bool _, _ => by simp [PyData.eqv]
  | .int _, _ => by simp [PyData.eqv]
  | .str _, _ => by simp [PyData.eqv]
  | .list xs, h => by rw [PyData.eqv]; exact eqvs_self xs (by simpa [nd] using h)
  | .tuple xs, h => by rw [PyData.eqv]; exact eqvs_self xs (by simpa [nd] using h)
  | .dict _, h => by simp [nd] at h
theorem eqvs_self : ∀ xs : List PyData, nds xs = true → PyData.eqvAll xs xs = true
  | [], _ => by simp [PyData.eqvAll]
  | x :: xs, h => by
    simp only [nds, Bool.and_eq_true] at h
    simp [PyData.eqvAll, eqv_self x h.1, eqvs_self xs h.2]
end
noncomputable def plain (k : Nat) (x : PyData) : Prop := nd x = true ∧ x.depth ≤ k
theorem know_nil {ρ : Rho} : ∀ p ∈ ([] : List (String × VV)), ρ p.1 = some p.2 := fun _ q => nomatch q
theorem know_cons {ρ : Rho} {x : String} {v : VV} {kv : List (String × VV)} (h : ρ x = some v) (h' : ∀ p ∈ kv, ρ p.1 = some p.2) : ∀ p ∈ (x, v) :: kv, ρ p.1 = some p.2 := fun p hp => by
  rcases List.mem_cons.mp hp with rfl | hp
  · exact h
  · exact h' p hp
noncomputable def know (kv : List (String × VV)) (ρ : Rho) : Rho := fun x => match kv.lookup x with
  | some v => some v
  | none => ρ x
theorem rho_know {ρ : Rho} (kv : List (String × VV)) (h : ∀ p ∈ kv, ρ p.1 = some p.2) : ρ = know kv ρ := by
  funext x
  unfold know
  split
  · rename_i v hv
    induction kv with
    | nil => exact no hv
    | cons p kv ih =>
      rw [List.lookup_cons] at hv
      by_cases e : x = p.1
      · rw [e, beq_self_eq_true] at hv
        (have e := si hv; subst e; clear hv)
        rw [e]; exact h p (.head _)
      · rw [beq_eq_false_iff_ne.mpr e] at hv
        exact ih (fun q hq => h q (.tail _ hq)) hv
  · rfl
end

section
variable {prog : Program} {w : World} {Hz : List Addr} {hb : Heap} {n : Nat} {sc : Scope}
section
variable {s₀ s s' : Shared} {X : List Addr} {env : Env} {C : List Addr} {ρ : Rho} {O : List (String × List Addr)}
theorem InS.growOwn (I : InS prog w Hz hb s₀ X env C ρ O s) (k : Keeps s s') (x : String) {D : Addr} {o : Obj} (hD : s.heap.get? D = none) (hD' : s'.heap.get? D = some o) (ho : ¬ Tup o) :
    InS prog w Hz hb s₀ X env C (ρ.del x) ((x, [D]) :: O) s' := by
  have hW : ∀ b, b ∈ WW env C ((x, [D]) :: O) → b = D ∨ b ∈ WW env C O := by
    intro b hb'
    simp only [WW, List.flatMap_cons, List.mem_cons, List.mem_append, List.not_mem_nil, or_false] at hb' ⊢
    rcases hb' with h | h | h | h
    · exact .inr (.inl h)
    · exact .inr (.inr (.inl h))
    · exact .inl h
    · exact .inr (.inr (.inr h))
  have g := keeps_grow k
  obtain ⟨fr1, fr2⟩ := I.toInF.fresh hD
  have I' := I.grow k
  refine ⟨⟨I'.same, I'.base, I'.keep, I'.alive, fun a ha => ?_, fun a ha => ?_, ?_, I.kind, I.glob, I.bult, I.clk, ?_, fun y vv e1 e2 => ?_⟩, I.fc, I.finj, I'.cello⟩
  · rcases hW a ha with rfl | ha
    · exact ⟨o, hD', ho⟩
    · exact I'.walive a ha
  · rcases hW a ha with rfl | ha
    · refine ⟨?_, fun _ => fr1⟩
      cases e : hb.get? a with
      | none => rfl
      | some o' => rw [I.base.grow _ _ e] at hD; cases hD
    · exact I.wfresh a ha
  · have q : (D :: WW env C O).Nodup := List.nodup_cons.mpr ⟨fr2, I.wnodup⟩
    refine List.Perm.nodup ?_ q
    unfold WW
    rw [List.flatMap_cons]
    exact (List.Perm.swap ..).trans (List.Perm.cons _ List.perm_middle.symm)
  · obtain ⟨m, hm, hv⟩ := I.ns
    refine ⟨m, hm.keeps g, fun y vv e1 e2 => ?_⟩
    have e1' : (if y = x then none else ρ y) = some vv := e1
    by_cases hy : y = x
    · rw [if_pos hy] at e1'; exact no e1'
    · rw [if_neg hy] at e1'
      obtain ⟨u, a, b⟩ := hv y vv e1' e2
      exact ⟨u, a, (b.more hD hW hy).grow g⟩
  · have e1' : (if y = x then none else ρ y) = some vv := e1
    by_cases hy : y = x
    · rw [if_pos hy] at e1'; exact no e1'
    · rw [if_neg hy] at e1'
      obtain ⟨c, u, a, b, d⟩ := I.cell y vv e1' e2
      exact ⟨c, u, a, isCell_grow b g, (d.more hD hW hy).grow g⟩
theorem grow_step (k : Keeps s s') (x : String) {D : Addr} (hD : s.heap.get? D = none) : Step s.heap s'.heap (WW env C O) (WW env C ((x, [D]) :: O)) := by
  refine ⟨fun b ob e _ => keeps_grow k b ob e, fun b hb' => ?_⟩
  simp only [WW, List.flatMap_cons, List.mem_cons, List.mem_append, List.not_mem_nil, or_false] at hb' ⊢
  rcases hb' with h | h | h | h
  · exact .inl (.inl h)
  · exact .inl (.inr (.inl h))
  · exact .inr (h ▸ hD)
  · exact .inl (.inr (.inr h))
end
section
variable {s₀ s : Shared} {X : List Addr} {env : Env} {C : List Addr} {ρ : Rho} {O : List (String × List Addr)}
end
noncomputable def GData (prog : Program) (w : World) (hb : Heap) (x : String) (d : PyData) : Prop := ∃ v as, GName hb x v ∧ RD prog w [] hb v d as ∧ wf d = true
theorem Ev.gdata {x : String} {pos : Pos} {d : PyData} (h : GData prog w hb x d) (hx : isGlob sc x = true) : Ev prog w hb n sc (.Name (Str.ofString x) pos) (fun _ => some (V.fix d .s)) := by
  obtain ⟨v, as, g, r, c⟩ := h
  exact Ev.glob hx g r c
theorem S1.assignTg {tgt e : Expr} {pos : Pos} {m : Rho → Option V} {bind : V → Rho → Option Rho} (h : Ev prog w hb n sc e m) (ht : Tg prog w hb sc tgt bind) (hsw : ∀ env : Env, env.scope = sc → swapsWithSole [tgt] e pos.line env = pure false)
    (hw : ∀ env : Env, swappedStores [tgt] e env = pure none) (he : ∀ env : Env, (assignEach [tgt] env).map (·.2) = [PySem.assign tgt env]) :
    S1 prog w hb n sc (.Assign [tgt] e pos) (fun ρ => (m ρ).bind fun v => (bind v ρ).map .next) := by
  intro A Hz env s₀ X C ρ O s r Q E hs hA I
  refine bindI fun v hv hm hQ => ?_
  induction mapE hm with | mk ρ' hb' => ?_
  refine wpAny_Assign_stores (h hs hA I.toInF hv fun u s₁ k₁ r₁ => ?_) (hsw env hs) (hw env)
  rw [he]
  exact ht hs hA.handled (I.grow k₁) r₁ hb' fun s' I' T => hQ O s' I' ((Step.of_grow (keeps_grow k₁)).trans T)
inductive RPs (prog : Program) (w : World) (Hz : List Addr) (s₀ : Heap) (W : List Addr) (h : Heap) : List (Value × Value) → List (Str × V) → Prop
  | nil : RPs prog w Hz s₀ W h [] []
  | cons {x : Str} {t : Tok} {u : Value} {v : V} {us : List (Value × Value)} {vs : List (Str × V)} : wf (.str x) = true → Rep prog w Hz s₀ W h u v → RPs prog w Hz s₀ W h us vs → RPs prog w Hz s₀ W h ((.str x t, u) :: us) ((x, v) :: vs)
noncomputable def Prs (prog : Program) (w : World) (hb : Heap) (n : Nat) (sc : Scope) (ks : List (Option Expr)) (es : List Expr) (m : Rho → Option (List (Str × V))) : Prop :=
  ∀ ⦃A : Around⦄ ⦃Hz : List Addr⦄ ⦃env : Env⦄ ⦃s₀ : Shared⦄ ⦃X C : List Addr⦄ ⦃ρ : Rho⦄ ⦃O : List (String × List Addr)⦄ ⦃s : Shared⦄ ⦃r : List (Str × V)⦄ ⦃pos : Pos⦄ ⦃Q : List (Value × Value) → Shared → Prop⦄ ⦃E : Value → Shared → Prop⦄,
    env.scope = sc → RoomF A n → InF prog w Hz hb s₀ X env C ρ O s → m ρ = some r → (∀ us s', Keeps s s' → RPs prog w Hz s₀.heap (WW env C O) s'.heap us r → Q us s') → wpAny (model prog w) A (evalPairs (pairTrees ks es env pos)) Q E s
theorem Prs.nil : Prs prog w hb n sc [] [] (fun _ => some []) := by
  intro A Hz env s₀ X C ρ O s r pos Q E hs hA I hm hQ
  (have e := si hm; subst e; clear hm)
  exact pairTrees_nil_walk (hQ [] s (keeps_refl s) .nil)
theorem Prs.cons {x : String} {k : Nat} {kp : Pos} {e : Expr} {ks : List (Option Expr)} {es : List Expr} {m : Rho → Option V} {ms : Rho → Option (List (Str × V))} (h : Ev prog w hb n sc e m) (hr : Prs prog w hb n sc ks es ms) (hx : wf (.str (Str.ofString x)) = true) :
    Prs prog w hb n sc (some (.Constant (.str (Str.ofString x)) k kp) :: ks) (e :: es) (fun ρ => do let a ← m ρ; let r ← ms ρ; some ((Str.ofString x, a) :: r)) := by
  intro A Hz env s₀ X C ρ O s r pos Q E hs hA I
  refine bindI fun a ha => bindI fun as has hm hQ => ?_
  (have e := si hm; subst e; clear hm)
  refine pairTrees_cons_walk (wpAny_Constant_str ?_)
  have k₀ := keeps_toks s (s.toks + 1)
  refine h hs hA (I.grow k₀) ha fun u s₁ k₁ r₁ => hr hs hA ((I.grow k₀).grow k₁) has fun us s₂ k₂ r₂ => ?_
  exact hQ _ _ (keeps_trans k₀ (keeps_trans k₁ k₂)) (.cons hx (r₁.grow (keeps_grow k₂)) r₂)
theorem RPs.str {s₀ : Heap} {W : List Addr} {h : Heap} {us : List (Value × Value)} {vs : List (Str × V)} (r : RPs prog w Hz s₀ W h us vs) : allStrKeys us = true ∧ (strPairs us).map (·.1) = vs.map (·.1) := by
  induction r with
  | nil => exact ⟨rfl, rfl⟩
  | cons _ _ _ ih => exact ⟨ih.1, by simp only [strPairs, List.map_cons, ih.2]⟩
theorem RPs.rds {s₀ : Heap} {W : List Addr} {h : Heap} {us : List (Value × Value)} {vs : List (Str × V)} (r : RPs prog w Hz s₀ W h us vs) (hf : flats (vs.map (·.2.x)) = true) :
    RDs prog w Hz h ((strPairs us).map (·.2)) (vs.map (·.2.x)) [] ∧ (∀ p ∈ vs, wf (.str p.1) = true ∧ wf p.2.x = true) := by
  induction r with
  | nil => exact ⟨.nil, fun _ q => nomatch q⟩
  | cons a b _ ih =>
    simp only [List.map_cons, flats, Bool.and_eq_true] at hf
    obtain ⟨as, rd, c, _⟩ := b
    have := rd.flat_foot hf.1
    subst this
    refine ⟨.cons (as := []) rd (ih hf.2).1, fun p hp => ?_⟩
    rcases List.mem_cons.mp hp with rfl | hp
    · exact ⟨a, c⟩
    · exact (ih hf.2).2 p hp
theorem places_nat (a b : Nat) : Builtin.Slice.slicePlaces (a : Int) (b : Int) 1 = b - a := by
  unfold Builtin.Slice.slicePlaces
  simp only [show (1 : Int) > 0 by decide, if_true, Int.ediv_one]
  split <;> lia
theorem take_drop_min {α : Type} (vs : List α) (a b : Nat) : (vs.take (min b vs.length)).drop (min a vs.length) = (vs.take b).drop a := by
  by_cases hb : b ≤ vs.length
  · rw [Nat.min_eq_left hb]
    by_cases ha : a ≤ vs.length
    · rw [Nat.min_eq_left ha]
    · rw [List.drop_eq_nil_of_le (by rw [Nat.min_eq_right (Nat.le_of_not_le ha), List.length_take]; exact Nat.min_le_right _ _), List.drop_eq_nil_of_le (by simp; lia)]
  · rw [Nat.min_eq_right (Nat.le_of_not_le hb), List.take_length, List.take_of_length_le (Nat.le_of_not_le hb)]
    by_cases ha : a ≤ vs.length
    · rw [Nat.min_eq_left ha]
    · rw [Nat.min_eq_right (Nat.le_of_not_le ha), List.drop_length, List.drop_eq_nil_of_le (Nat.le_of_not_le ha)]
theorem RDs.slice {h : Heap} {vs : List Value} {xs : List PyData} {as : List Addr} (r : RDs prog w Hz h vs xs as) (a b : Nat) : ∃ bs, RDs prog w Hz h ((vs.take b).drop a) ((xs.take b).drop a) bs ∧ ∀ c ∈ bs, c ∈ as := by
  obtain ⟨bs, q, hq⟩ := r.part ((List.range (min b vs.length - min a vs.length)).map fun k => min a vs.length + k)
  rw [pick_range vs _ _ (Nat.min_le_right _ _), take_drop_min] at q
  rw [show vs.length = xs.length from r.length, pick_range xs _ _ (Nat.min_le_right _ _), take_drop_min] at q
  exact ⟨bs, q, hq⟩
theorem wf_slice {xs : List PyData} {a b : Nat} (h : wf (.tuple xs) = true) : wf (.tuple ((xs.take b).drop a)) = true := by
  rw [wf_tuple] at *
  refine ⟨Nat.le_trans ?_ h.1, ?_⟩
  · rw [List.length_drop, List.length_take]; exact Nat.le_trans (Nat.sub_le _ _) (Nat.min_le_right _ _)
  · have h2 := (wfs_iff _).mp h.2
    exact (wfs_iff _).mpr fun y hy => h2 y (List.mem_of_mem_take (List.mem_of_mem_drop hy))
theorem FlOk.turn {s₀ h : Heap} {W W' : List Addr} {f : Fl} {as : List Addr} (o : FlOk s₀ W f as) (al : ∀ b ∈ as, ∃ ob, h.get? b = some ob) (hW : ∀ b ∈ W', b ∈ W ∨ h.get? b = none) : FlOk s₀ W' f as := by
  have ne : ∀ b ∈ as, b ∉ W → b ∉ W' := fun b hb h1 h2 => (hW b h2).elim h1 fun e => by
    obtain ⟨ob, q⟩ := al b hb
    rw [e] at q; exact no q
  induction f with
  | d => exact fun b hb => ⟨(o b hb).1, ne b hb (o b hb).2⟩
  | s => exact fun b hb => ne b hb (o b hb)
  | t => trivial
theorem RepVV.turn {s₀ h h' : Heap} {Z W W' : List Addr} {O O' : List (String × List Addr)} {x : String} {u : Value} {vv : VV} (k : Off W h h') (k' : ∀ b ob, h.get? b = some ob → b ∉ Z → h'.get? b = some ob) (r : RepVV prog w Hz s₀ W O h x u vv)
    (hz : ∀ sp, O.lookup x = some sp → ∀ a ∈ sp, a ∉ Z) (hW : ∀ b ∈ W', b ∈ W ∨ h.get? b = none) (hO : O'.lookup x = O.lookup x) : RepVV prog w Hz s₀ W' O' h' x u vv := by
  induction vv with
  | val v =>
    obtain ⟨f, r⟩ := r
    obtain ⟨as, r, c, o⟩ := r
    refine ⟨f, as, r.off k ?_, c, o.turn r.alive hW⟩
    rcases f with f | f <;> rw [f] at o
    · exact fun a ha => (o a ha).2
    · exact o
  | own o =>
    obtain ⟨sp, e, r⟩ := r
    refine ⟨sp, hO.trans e, ?_⟩
    have hz := hz sp e
    induction r with
    | lst a b c d => exact .lst (k' _ _ a (hz _ (.head _))) (b.off k fun x hx => (d x hx).2) c (d.turn b.alive hW)
    | dct a g e' b c d =>
      obtain ⟨o, es, ep, ho, r⟩ := a
      exact .dct ⟨o, es, ep, k' _ _ ho (hz _ (.head _)), r⟩ g e' (b.off k fun x hx => (d x hx).2) c (d.turn b.alive hW)
    | tree a b c e' f => exact .tree (a.off (W := Z) (fun b o e q => q.elim (k' b o e) fun t => k b o e (.inr t)) hz) b c e' f
section
variable {s₀ s : Shared} {X : List Addr} {env : Env} {C : List Addr} {ρ : Rho} {O : List (String × List Addr)}
end

noncomputable def KeptAt (h h' : Heap) (ps : List Addr) : Prop := ∀ b o, h.get? b = some o → (b ∈ ps ∨ Tup o) → h'.get? b = some o
section
variable (prog w Hz)
inductive HoleR (h : Heap) (vs : List Value) (xs : List PyData) (i : Nat) (x : PyData) : List Addr → Prop
  | mk (v : Value) (l b m : List Addr) (h1 : vs[i]? = some v) (h2 : RD prog w Hz h v x b) (h3 : ∀ (h' : Heap) x' b', KeptAt h h' (l ++ m) → RD prog w Hz h' v x' b' → RDs prog w Hz h' vs (xs.set i x') (l ++ (b' ++ m))) : HoleR h vs xs i x (l ++ (b ++ m))
end
structure Hole (prog : Program) (w : World) (Hz : List Addr) (h : Heap) (u : Value) (d : PyData) (as : List Addr) (v : Value) (x : PyData) (b : List Addr) (up : PyData → PyData) : Prop where
  node : RD prog w Hz h v x b
  wfn : wf x = true
  wfu : ∀ x', wf x' = true → wf (up x') = true
  top : ∀ x', isNode x' = true → isNode (up x') = true
  own : isNode d = true
  split : ∃ l m, as = l ++ (b ++ m) ∧ ∀ (h' : Heap) x' b', KeptAt h h' (l ++ m) → RD prog w Hz h' v x' b' → RD prog w Hz h' u (up x') (l ++ (b' ++ m))
section
variable (prog w Hz)
inductive HItem (h : Heap) (u : Value) (d : PyData) (as : List Addr) (xs : List PyData) (i : Nat) (x : PyData) (up : PyData → PyData) : Value → Prop
  | mk (a : Addr) (vs : List Value) (n : Nat) (v' : Value) (b' : List Addr) (h1 : h.get? a = some (lstObj vs n)) (h2 : vs.length = xs.length) (h3 : vs[i]? = some v') (h4 : Hole prog w Hz h u d as v' x b' (fun y => up (.list (xs.set i y)))) : HItem h u d as xs i x up (.ref a)
inductive HKey (h : Heap) (u : Value) (d : PyData) (as : List Addr) (kvs : List (PyData × PyData)) (k : Str) (x : PyData) (up : PyData → PyData) (f : Str → PyData → List (PyData × PyData) → List (PyData × PyData)) : Value → Prop
  | mk (a : Addr) (ks : List (Str × Value)) (v' : Value) (b' : List Addr) (h1 : h.DictOf (strKind prog w) a ks) (h2 : (a == sysModules) = false) (h3 : valueAt ks k = some v') (h4 : Hole prog w Hz h u d as v' x b' (fun y => up (.dict (f k y kvs)))) : HKey h u d as kvs k x up f (.ref a)
end
noncomputable def putD (k : Str) (y : PyData) : List (PyData × PyData) → List (PyData × PyData)
  | [] => []
  | (.str x, v) :: r => if x = k then (.str x, y) :: r else (.str x, v) :: putD k y r
  | p :: r => p :: putD k y r
section
variable {s₀ s : Shared} {X : List Addr} {env : Env} {C : List Addr} {ρ : Rho} {O : List (String × List Addr)}
end
noncomputable def place (x k : PyData) : Option (PyData × (PyData → PyData)) := match x with
  | .dict kvs => (keyOf k).bind fun key => (atKey key kvs).map fun y => (y, fun z => .dict (putD key z kvs))
  | .list xs => (intOf k).bind fun i => if 0 ≤ i then (xs[i.toNat]?).map fun y => (y, fun z => .list (xs.set i.toNat z)) else none
  | _ => none
noncomputable def listOfD : PyData → Option (List PyData)
  | .list xs => some xs
  | _ => none
theorem listOfD_some {x : PyData} {xs : List PyData} (h : listOfD x = some xs) : x = .list xs := by
  cases x with
  | list k => (have e := si h; subst e; clear h); rfl
  | _ => exact no h
theorem RDs.setAt {h : Heap} {vs : List Value} {xs : List PyData} {as : List Addr} (r : RDs prog w Hz h vs xs as) {i : Nat} (hi : i < xs.length) {u : Value} {y : PyData} {bs : List Addr} (ru : RD prog w Hz h u y bs) :
    ∃ l b m, as = l ++ (b ++ m) ∧ RDs prog w Hz h (vs.set i u) (xs.set i y) (l ++ (bs ++ m)) := by
  refine RDs.ind (R := fun vs xs as => ∀ i : Nat, i < xs.length → ∃ l b m, as = l ++ (b ++ m) ∧ RDs prog w Hz h (vs.set i u) (xs.set i y) (l ++ (bs ++ m))) (fun i e => by simp at e) (fun {v vs x xs as cs} a q r i e => ?_) r i hi
  induction i with
  | zero => exact ⟨[], as, cs, rfl, show RDs prog w Hz h (u :: vs) (y :: xs) (bs ++ cs) from .cons ru q⟩
  | succ i =>
    obtain ⟨l, b, m, h2, h4⟩ := r i (Nat.lt_of_succ_lt_succ e)
    refine ⟨as ++ l, b, m, by rw [h2, List.append_assoc], ?_⟩
    rw [List.append_assoc]
    exact .cons a h4
section
variable {s₀ s t : Shared} {X : List Addr} {env : Env} {C : List Addr} {ρ : Rho} {O : List (String × List Addr)}
end
set_option maxRecDepth 100000 in
theorem set_at {A : Around} {E : Value → Shared → Prop} {s : Shared} {a : Addr} {vs : List Value} {k : Nat} {j : Int} {t : Tok} {v : Value} {Q : Unit → Shared → Prop} (ho : s.heap.get? a = some (lstObj vs k)) (h0 : 0 ≤ j) (hz : j < 2 ^ 63) (hj : j.toNat < vs.length)
    (hQ : Q () { s with heap := s.heap.update a (Obj.mapSeq fun ys => ys.setIfInBounds j.toNat v) }) : wpAny (model prog w) A (setItem (.ref a) (.int j t) v) Q E s := by
  have ty : s.TypeIs (.ref a) "list" := ⟨_, ho, rfl⟩
  have get : vs.toArray[j.toNat]? = some vs[j.toNat] := by simp [hj]
  have body : wpAny (model prog w) A.in1 (Builtin.«list.__setitem__» ⟨[.ref a, .int j t, v], []⟩) (fun r s' => ∃ x, r = .done (.ret x) ∧ Q () s') E s := by
    change wpAny _ _ (Builtin.List.listSubscript? (.int j t) >>= _) _ _ s
    refine wpAny_bind (wpAny_listSubscript_int (fitsIndex_of h0 hz) ?_)
    obtain ⟨i, rfl⟩ := Int.eq_ofNat_of_zero_le h0
    change wpAny _ _ ((seqItemAt a i >>= fun r => pure (r.map (i, ·))) >>= _) _ _ s
    refine wpAny_bind (wpAny_bind (wpAny_seqItemAt ho rfl (wpAny_pure ?_)))
    have get' : vs.toArray[i]? = some vs[i] := get
    rw [get']
    change wpAny _ _ (setSeqItemAt a i v >>= _) _ _ s
    exact wpAny_bind (wpAny_setSeqItemAt ho rfl (wpAny_pure ⟨.none, rfl, hQ⟩))
  unfold setItem
  refine wpAny_holding ?_
  refine wpAny_bind (wpAny_sequenceKey ty (by decide) (wpAny_bind (wpAny_callSpecial?_slot (name := Str.ofString "__setitem__") ty slot_list_setitem (wpAny_call_entry slot_list_setitem ty entry_list_setitem (wpAny_mono body (fun r s' h => ?_) fun _ _ e => e) (args_list_setitem _ _ _)))))
  obtain ⟨x, e, q⟩ := h
  exact ⟨x, e, wpAny_pure q⟩
theorem bind_val {k : Str → Option NameKind} : ∀ {ps : List String} {us : List Value} {m c : Str → Option Value}, ps.Nodup → ∀ {y : String} {u : Value}, (ps.zip us).lookup y = some u →
    (k (Str.ofString y) = some .local → bindL k ((ps.map Str.ofString).zip us) m (Str.ofString y) = some u) ∧ (k (Str.ofString y) ≠ some .local → bindC k ((ps.map Str.ofString).zip us) c (Str.ofString y) = some u)
  | [], _, _, _, _, y, u, e => by simp at e
  | p :: ps, [], _, _, _, y, u, e => by simp at e
  | p :: ps, v :: us, m, c, hn, y, u, e => by
    rw [List.nodup_cons] at hn
    simp only [List.zip_cons_cons, List.lookup_cons] at e
    by_cases hy : y = p
    · subst hy
      simp only [beq_self_eq_true] at e
      (have e := si e; subst e; clear e)
      refine ⟨fun hk => ?_, fun hk => ?_⟩
      · rw [List.map_cons, List.zip_cons_cons, bindL, bindL_other (zip_names hn.1), if_pos hk]; exact if_pos rfl
      · rw [List.map_cons, List.zip_cons_cons, bindC, bindC_other (zip_names hn.1), if_neg hk]; exact if_pos rfl
    · have hyp : (y == p) = false := by simpa using hy
      rw [hyp] at e
      exact bind_val hn.2 e
structure Handed (prog : Program) (w : World) (Hz : List Addr) (hb h : Heap) (ps : List String) (px : String) (us : List Value) (xs : List PyData) (a : Addr) (d : PyData) (as : List Addr) : Prop where
  val : (ps.zip us).lookup px = some (.ref a)
  dat : (ps.zip xs).lookup px = some d
  tree : RD prog w Hz h (.ref a) d as
  node : isNode d = true
  nodup : as.Nodup
  new : ∀ c ∈ as, hb.get? c = none
  args : ∀ y u x, (ps.zip us).lookup y = some u → (ps.zip xs).lookup y = some x → y ≠ px → ∃ bs, RD prog w Hz h u x bs ∧ ∀ c ∈ bs, c ∉ as
noncomputable def FnM (prog : Program) (w : World) (hb : Heap) (n : Nat) (f : Addr) (ps : List String) (px : String) (m : List PyData → Option PyData) : Prop :=
  ∀ ⦃A : Around⦄ ⦃Hz : List Addr⦄ ⦃s : Shared⦄ ⦃us : List Value⦄ ⦃xs : List PyData⦄ ⦃as₀ as : List Addr⦄ ⦃a : Addr⦄ ⦃d d' : PyData⦄ ⦃Q : Value → Shared → Prop⦄ ⦃E : Value → Shared → Prop⦄,
    Room A n → Base prog Hz hb s.heap → RDs prog w Hz s.heap us xs as₀ → wfs xs = true → ps.length = us.length → Handed prog w Hz hb s.heap ps px us xs a d as → m xs = some d' →
    (∀ as' s', (∃ h tk, s' = { s with heap := h, toks := tk }) → (∀ b o, s.heap.get? b = some o → b ∉ as → s'.heap.get? b = some o) → (∀ b o, s.heap.get? b = some o → ∃ o', s'.heap.get? b = some o') → RD prog w Hz s'.heap (.ref a) d' as' → as'.Nodup → wf d' = true →
      (∀ c ∈ as', c ∈ as ∨ s.heap.get? c = none) → Q .none s') → wpAny (model prog w) A (call (.ref f) us) Q E s
noncomputable def EvT (prog : Program) (w : World) (hb : Heap) (n : Nat) (sc : Scope) (e : Expr) (m : Rho → Option PyData) : Prop :=
  ∀ ⦃A : Around⦄ ⦃Hz : List Addr⦄ ⦃env : Env⦄ ⦃s₀ : Shared⦄ ⦃X C : List Addr⦄ ⦃ρ : Rho⦄ ⦃O : List (String × List Addr)⦄ ⦃s : Shared⦄ ⦃d : PyData⦄ ⦃Q : Value → Shared → Prop⦄ ⦃E : Value → Shared → Prop⦄,
    env.scope = sc → RoomF A n → InF prog w Hz hb s₀ X env C ρ O s → m ρ = some d →
    (∀ u as s', Keeps s s' → RD prog w Hz s'.heap u d as → as.Nodup → wf d = true → (∀ a ∈ as, s.heap.get? a = none) → Q u s') → wpAny (model prog w) A (eval e env) Q E s
theorem EvT.emp {pos : Pos} : EvT prog w hb n sc (.Dict [] [] pos) (fun _ => some (.dict [])) := by
  intro A Hz env s₀ X C ρ O s d Q E hs hA I hm hQ
  (have e := si hm; subst e; clear hm)
  refine wpAny_Dict_empty ?_
  have hmod : (s.heap.objs.size == sysModules) = false := by
    obtain ⟨o, ho⟩ := I.base.mods
    have := Heap.lt_size (I.base.grow _ _ ho)
    simpa using (Nat.ne_of_gt this)
  exact hQ _ [s.heap.objs.size] _ (keeps_push s _) (RD.dict (kvs := []) (xs := []) (Heap.DictOf.new _) hmod rfl .nil) (by simp) (by decide) fun a ha => by
    rw [List.mem_singleton.mp ha]; exact get?_size_none _ (Nat.le_refl _)
inductive RTs (prog : Program) (w : World) (Hz : List Addr) (h : Heap) : List (Value × Value) → List (Str × PyData) → List Addr → Prop
  | nil : RTs prog w Hz h [] [] []
  | cons {x : Str} {t : Tok} {u : Value} {d : PyData} {us : List (Value × Value)} {ds : List (Str × PyData)} {as bs : List Addr} : wf (.str x) = true → wf d = true → RD prog w Hz h u d as → RTs prog w Hz h us ds bs → RTs prog w Hz h ((.str x t, u) :: us) ((x, d) :: ds) (as ++ bs)
section
variable {s₀ s s' : Shared} {X : List Addr} {env : Env} {C : List Addr} {ρ : Rho} {O : List (String × List Addr)}
end
end

section
theorem forD_ret {bind : V → Rho → Option Rho} {body : Rho → Option Out} {f : Fl} {x y : PyData} {xs : List PyData} {ρ ρ₁ : Rho} (h : bind (V.fix x f) ρ = some ρ₁) (h' : run body ρ₁ = some (.ret y)) : forD bind body f (x :: xs) ρ = some (.ret y) := by
  unfold forD
  rw [h]
  simp only [Option.bind_some]
  rw [show body ρ₁ = _ from h']; rfl
theorem forD_next {bind : V → Rho → Option Rho} {body : Rho → Option Out} {f : Fl} {x : PyData} {xs : List PyData} {ρ ρ₁ ρ₂ : Rho} {o : Out} (h : bind (V.fix x f) ρ = some ρ₁) (h' : run body ρ₁ = some (.next ρ₂)) (h'' : forD bind body f xs ρ₂ = some o) : forD bind body f (x :: xs) ρ = some o := by
  unfold forD
  rw [h]
  simp only [Option.bind_some]
  rw [show body ρ₁ = _ from h']; exact h''
theorem forR {mi : Rho → Option (List PyData × Fl)} {bind : V → Rho → Option Rho} {mb : Rho → Option Out} {ρ : Rho} {o : Out} (xs : List PyData) (f : Fl) (hi : itr mi ρ = some (xs, f)) (hf : f ≠ .t) (h : forD bind mb f xs ρ = some o) :
    run (fun ρ => (mi ρ).bind fun v => if v.2 = .t then none else forD bind mb v.2 v.1 ρ) ρ = some o := by
  dsimp only [run]; rw [show mi ρ = _ from hi]; simp only [Option.bind_some, if_neg hf]; exact h
end

section
section
variable {x : String} {mp : Rho → PyData → Option (PyData × (PyData → PyData))} {m mi : Rho → Option V} {ρ : Rho} {ro : Option Addr} {d d' : PyData} {up : PyData → PyData} {xs ys : List PyData} {kvs : List (PyData × PyData)} {v k : V} {key : Str}
end
end

section
variable {prog : Program} {w : World} {Hz : List Addr} {hb : Heap} {n : Nat} {sc : Scope}
structure Cls (ns : List Str) (hb : Heap) (C : Addr) (mN : Str → Option Value) : Prop where
  here : ∃ N, PyProof.Rows.ClsAt hb C N mN
  ga : mN "__getattribute__" = none
  gh : mN "__getattr__" = none
  sa : mN "__setattr__" = none
  attrs : ∀ y ∈ ns, mN y = none
  obj : ∀ y ∈ ns, typeLookup (.type "object") y = pure none
section
variable {A : Around} {E : Value → Shared → Prop} {s : Shared} {C : Addr} {mN m : Str → Option Value} {a dx : Addr}
end
noncomputable def stL (f : StF) : List PyData := [f.told, .int f.opened, f.given, f.standing, .tuple (f.held.map fun q => .tuple [.str q.1, .int q.2]), .tuple (f.worth.map fun q => .tuple [.int q.1, .int q.2])]
section
variable (prog w Hz)
inductive StoreI (h : Heap) (C V : Addr) : Value → PyData → Int × List PyData → List Addr → Prop
  | mk (a dx hd p : Addr) (pool : List (Addr × Addr)) (f : StF) (vs : List Value) (m : Str → Option Value) (ks : List (Str × Value)) (bs : List Addr) (i : StoreAt prog w h a dx C V p hd pool f vs m ks) (r : RDs prog w Hz h vs [f.told, f.given, f.standing] bs) : StoreI h C V (.ref a) (storeD C V p f) ((p : Int), stL f) (footS a dx hd pool ++ bs)
inductive StoreJ (h : Heap) (C V : Addr) (u : Value) (x : PyData) (q : Int × List PyData) (as : List Addr) : Prop
  | mk (a dx hd p : Addr) (pool : List (Addr × Addr)) (f : StF) (vs : List Value) (m : Str → Option Value) (ks : List (Str × Value)) (bs : List Addr) (h1 : u = .ref a) (h2 : x = storeD C V p f) (h3 : q = ((p : Int), stL f)) (h4 : as = footS a dx hd pool ++ bs) (i : StoreAt prog w h a dx C V p hd pool f vs m ks) (r : RDs prog w Hz h vs [f.told, f.given, f.standing] bs) : StoreJ h C V u x q as
end
section
variable (prog w Hz)
inductive GetI (h : Heap) (f : StF) (m : Str → Option Value) : List Value → List Addr → Prop
  | mk (v1 v2 v3 : Value) (b1 b2 b3 : List Addr) (g1 : m "told" = some v1) (g2 : m "given" = some v2) (g3 : m "standing" = some v3) (r1 : RD prog w Hz h v1 f.told b1) (r2 : RD prog w Hz h v2 f.given b2) (r3 : RD prog w Hz h v3 f.standing b3) : GetI h f m [v1, v2, v3] (b1 ++ (b2 ++ b3))
end
section
variable (prog w Hz)
inductive AttrI (h : Heap) (C Va : Addr) (y : String) (z : PyData) (as : List Addr) : Value → Prop
  | mk (a dx D : Addr) (m : Str → Option Value) (v : Value) (bs : List Addr) (h1 : D = C ∧ Str.ofString y ∈ storeNames ∨ D = Va ∧ Str.ofString y ∈ valNames) (h2 : IAt h a dx D m) (h3 : m (Str.ofString y) = some v) (h4 : RD prog w Hz h v z bs) (h5 : ∀ c ∈ bs, c ∈ as) (h6 : wf z = true) : AttrI h C Va y z as (.ref a)
end
noncomputable abbrev AttrForm (e : Expr) (y : Str) (pos : Pos) : Prop := ∀ env : Env, eval (.Attribute e y pos) env = (do
      let o ← eval e env
      standAt pos.atName
      let r ← holding [o] (getAttr o y true)
      letTemporaryGo e o r
      pure r)
section
variable {A : Around} {E : Value → Shared → Prop} {s : Shared} {env : Env}
end
structure MethP (prog : Program) (w : World) (hb : Heap) (n : Nat) (C : Addr) (y : String) (m : List PyData → Option PyData) : Prop where
  there : ∃ mC f fo fd r, Cls storeNames hb C mC ∧ mC (Str.ofString y) = some (.ref f) ∧ hb.get? f = some fo ∧ fo.cls = .type "function" ∧ fo.data = .func fd ∧ typeLookup (.type "object") (Str.ofString y) = pure r ∧ Fn prog w hb n f m
  own : Str.ofString y ∉ storeNames
noncomputable def fld (y : String) : Option (Fin 3) := if y = "told" then some 0 else if y = "given" then some 1 else if y = "standing" then some 2 else none
section
variable (prog w Hz)
inductive HAttr (h : Heap) (u : Value) (d : PyData) (as : List Addr) (C : Addr) (y : String) (z : PyData) (up g : PyData → PyData) : Value → Prop
  | mk (a dx : Addr) (mm : Str → Option Value) (v' : Value) (b' : List Addr) (h1 : IAt h a dx C mm) (h2 : mm (Str.ofString y) = some v') (h3 : Str.ofString y ∈ storeNames) (h4 : Hole prog w Hz h u d as v' z b' (fun t => up (g t))) : HAttr h u d as C y z up g (.ref a)
end
noncomputable def FnR (prog : Program) (w : World) (hb : Heap) (n : Nat) (f : Addr) (ps : List String) (px : String) (m : List PyData → Option (PyData × PyData)) : Prop :=
  ∀ ⦃A : Around⦄ ⦃Hz : List Addr⦄ ⦃s : Shared⦄ ⦃us : List Value⦄ ⦃xs : List PyData⦄ ⦃as₀ as : List Addr⦄ ⦃a : Addr⦄ ⦃d z d' : PyData⦄ ⦃Q : Value → Shared → Prop⦄ ⦃E : Value → Shared → Prop⦄,
    Room A n → Base prog Hz hb s.heap → RDs prog w Hz s.heap us xs as₀ → wfs xs = true → ps.length = us.length → Handed prog w Hz hb s.heap ps px us xs a d as → m xs = some (z, d') →
    (∀ u as' s', (∃ h tk, s' = { s with heap := h, toks := tk }) → (∀ b o, s.heap.get? b = some o → b ∉ as → s'.heap.get? b = some o) → (∀ b o, s.heap.get? b = some o → ∃ o', s'.heap.get? b = some o') → RD prog w Hz s'.heap (.ref a) d' as' → as'.Nodup → wf d' = true →
      (∀ c ∈ as', c ∈ as ∨ s.heap.get? c = none) → RD prog w Hz s'.heap u z [] → wf z = true → Q u s') → wpAny (model prog w) A (call (.ref f) us) Q E s
structure MethR (prog : Program) (w : World) (hb : Heap) (n : Nat) (C : Addr) (y p0 p1 : String) (m : List PyData → Option (PyData × PyData)) : Prop where
  there : ∃ mC f fo fd r, Cls storeNames hb C mC ∧ mC (Str.ofString y) = some (.ref f) ∧ hb.get? f = some fo ∧ fo.cls = .type "function" ∧ fo.data = .func fd ∧ typeLookup (.type "object") (Str.ofString y) = pure r ∧ FnR prog w hb n f [p0, p1] p0 m
  own : Str.ofString y ∉ storeNames
  ne : p1 ≠ p0
noncomputable def mthOf (p : Program) (i j : Nat) : Option Stmt := match p.main.body[i]? with
  | some (.ClassDef _ _ _ b _ _ _ _ _ _ _) => b[j]?
  | _ => none
noncomputable def mthB (p : Program) (i j : Nat) : List Stmt := match mthOf p i j with
  | some (.FunctionDef _ _ b _ _ _ _ _ _ _) => b
  | _ => []
noncomputable def mthS (p : Program) (i j : Nat) : Scope := match mthOf p i j with
  | some (.FunctionDef _ _ _ _ _ _ s _ _ _) => s
  | _ => default
end

section
end

section
variable {prog : Program} {w : World} {Hz : List Addr} {hb : Heap} {n : Nat} {sc : Scope}
section
variable (prog w Hz)
inductive InstJ (h : Heap) (C : Addr) (u : Value) (x : PyData) (q : List PyData × List (PyData × PyData)) (as : List Addr) : Prop
  | mk (a dx : Addr) (rs : List (Str × Addr)) (gs : List (Str × PyData)) (vs : List Value) (m : Str → Option Value) (bs : List Addr) (h1 : u = .ref a) (h2 : x = recD C rs gs) (h3 : as = a :: dx :: bs) (h4 : q = (rs.map (fun q => .tuple [.str q.1, .int q.2]), gs.map fun p => (.str p.1, p.2)))
      (i : IAt h a dx C m) (h5 : ∀ q ∈ rs, m q.1 = some (.ref q.2)) (h6 : gs.map (fun p => m p.1) = vs.map some) (h7 : Within m (rs.map (·.1) ++ gs.map (·.1))) (r : RDs prog w Hz h vs (gs.map (·.2)) bs) : InstJ h C u x q as
end
section
variable {A : Around} {E : Value → Shared → Prop} {s : Shared} {X : List Addr} {env : Env} {C' : List Addr} {ρ : Rho} {O : List (String × List Addr)} {s₀ : Shared}
end
theorem Room.under {A : Around} {n : Nat} {C : Addr} {us : List Value} (h : Room A (n + 1)) : Room (A.under (.builtin "type.__call__" ⟨.ref C :: us, []⟩)) n := by
  obtain ⟨l, hl⟩ := h.frames
  refine ⟨h.handled, ?_, ?_, ⟨l, ?_⟩⟩
  · have := h.depth
    show A.depth + 1 + n + 100 < _
    lia
  · have := h.units
    have hc : Code.cUnits (.builtin "type.__call__" ⟨.ref C :: us, []⟩) ≤ 8 := by
      show Code.cUnits (.builtin "type.__call__" _) ≤ 8
      exact Nat.le_of_ble_eq_true rfl
    show A.units + Code.cUnits (.builtin "type.__call__" ⟨.ref C :: us, []⟩) + 8 * n + 100 < _
    lia
  · clear h
    cases A
    cases hl
    rfl
structure InitM (prog : Program) (w : World) (hb : Heap) (n : Nat) (C : Addr) (ps : List String) (m : List PyData → Option PyData) : Prop where
  there : ∃ nl mC fI oI, Cls nl hb C mC ∧ mC "__init__" = some (.ref fI) ∧ hb.get? fI = some oI ∧ oI.cls = .type "function" ∧ FnM prog w hb n fI ("self" :: ps) "self" m
theorem Ev.ofT {e : Expr} {m : Rho → Option PyData} (h : EvT prog w hb n sc e m) : Ev prog w hb n sc e (fun ρ => (m ρ).map fun d => ⟨d, .d⟩) := by
  intro A Hz env s₀ X C ρ O s v Q E hs hA I hm hQ
  induction mapE hm with | mk d hd => ?_
  exact h hs hA I hd fun u as s' k r _ c fr => hQ u s' k ⟨as, r, c, fun a ha => I.fresh (fr a ha)⟩
noncomputable def newD (C p : Addr) : PyData := recD C [(Str.ofString "plots", p)] [(Str.ofString "told", .list []), (Str.ofString "opened", .int 0), (Str.ofString "given", .list []), (Str.ofString "standing", .dict []), (Str.ofString "held", .dict [])]
noncomputable def hideH (W : List Addr) (h : Heap) : Heap := ⟨h.objs.mapIdx fun i o => if i ∈ W then { o with data := .freed } else o, h.life⟩
theorem hideH_get (W : List Addr) (h : Heap) (b : Addr) : (hideH W h).get? b = if b ∈ W then none else h.get? b := by
  unfold Heap.get? hideH
  simp only [Array.getElem?_mapIdx]
  cases e : h.objs[b]? with
  | none => simp
  | some o =>
    by_cases hw : b ∈ W
    · simp [hw]
    · simp [hw]
theorem hideH_sub {W : List Addr} {h : Heap} : Grow (hideH W h) h := fun b o e => by
  rw [hideH_get] at e
  split at e
  · exact no e
  · exact e
theorem GName.up {hb hb' : Heap} {x : String} {v : Value} (g : Grow hb hb') (h : GName hb x v) : GName hb' x v := by
  rcases h with ⟨mg, hm, hv⟩ | ⟨mg, mb, hm, h0, hm', hv⟩
  · exact .inl ⟨mg, hm.keeps g, hv⟩
  · exact .inr ⟨mg, mb, hm.keeps g, h0, hm'.keeps g, hv⟩
theorem DefOk.up {hb hb' : Heap} (g : Grow hb hb') {f : Addr} {ps : List String} {body : List Stmt} (D : DefOk hb f sc ps body) : DefOk hb' f sc ps body := by
  obtain ⟨fo, fd, args, h1, h2, h3, h4, h5, h6, h7, h8, h9, h10, h11⟩ := D.there
  exact ⟨⟨fo, fd, args, g _ _ h1, h2, h3, h4, h5, h6, h7, h8, h9, h10, h11.keeps g⟩, D.kind, D.gen, D.co, D.once, D.names, D.vars⟩
section
variable {s₀ s : Shared} {X : List Addr} {env : Env} {C : List Addr} {ρ : Rho} {O : List (String × List Addr)}
end
structure StoreInit (prog : Program) (w : World) (hb : Heap) (k : Nat) (C : Addr) : Prop where
  there : ∃ mC fI oI scI p1 p2 p3 p4 restI mI, Cls storeNames hb C mC ∧ mC "__init__" = some (.ref fI) ∧ hb.get? fI = some oI ∧ oI.cls = .type "function" ∧
    DefOk hb fI scI ["self", "plots"] (.Assign [.Attribute (.Name (Str.ofString "self") p1) (Str.ofString "plots") p2] (.Name (Str.ofString "plots") p3) p4 :: restI) ∧ scI.names.lookup (Str.ofString "plots") = some .local ∧ St prog w hb k scI restI mI ∧
    ∀ (a p : Addr) (ρ : Rho), ρ "self" = some (.own (.tree (some a) (recD C [(Str.ofString "plots", p)] []))) → ∃ ρ', mI ρ = some (.next ρ') ∧ ρ' "self" = some (.own (.tree (some a) (newD C p)))
noncomputable def partN : Option (Nat × Tok) → Value
  | none => .none
  | some (a, t) => .int a t
noncomputable def partI (p : Option (Nat × Tok)) : Option Int := p.map fun q => (q.1 : Int)
noncomputable def loN (p : Option (Nat × Tok)) (n : Nat) : Nat := min ((p.map (·.1)).getD 0) n
noncomputable def hiN (p : Option (Nat × Tok)) (n : Nat) : Nat := min ((p.map (·.1)).getD n) n
theorem adjust_gen (a b : Option (Nat × Tok)) (n : Nat) : Builtin.Slice.sliceAdjust (partI a) (partI b) 1 ((n : Nat) : Int) = (((loN a n : Nat) : Int), ((hiN b n : Nat) : Int)) := by
  unfold Builtin.Slice.sliceAdjust
  cases a with
  | none =>
    cases b with
    | none => simp [partI, loN, hiN]
    | some b =>
      have h2 : ¬ ((b.1 : Int) < 0) := Int.not_lt.mpr (Int.natCast_nonneg _)
      simp only [partI, Option.map_some, Option.map_none, show ¬ ((1 : Int) < 0) by decide, h2, if_false, loN, hiN, Option.getD_some, Option.getD_none]
      rw [show min (b.1 : Int) (n : Int) = ((min b.1 n : Nat) : Int) by omega]
      simp
  | some a =>
    have h1 : ¬ ((a.1 : Int) < 0) := Int.not_lt.mpr (Int.natCast_nonneg _)
    cases b with
    | none =>
      simp only [partI, Option.map_some, Option.map_none, show ¬ ((1 : Int) < 0) by decide, h1, if_false, loN, hiN, Option.getD_some, Option.getD_none]
      rw [show min (a.1 : Int) (n : Int) = ((min a.1 n : Nat) : Int) by omega]
      simp
    | some b =>
      have h2 : ¬ ((b.1 : Int) < 0) := Int.not_lt.mpr (Int.natCast_nonneg _)
      simp only [partI, Option.map_some, show ¬ ((1 : Int) < 0) by decide, h1, h2, if_false, loN, hiN, Option.getD_some]
      rw [show min (a.1 : Int) (n : Int) = ((min a.1 n : Nat) : Int) by omega, show min (b.1 : Int) (n : Int) = ((min b.1 n : Nat) : Int) by omega]
theorem slicePart_gen {A : Around} {E : Value → Shared → Prop} {s : Shared} {Q : Option Int → Shared → Prop} {p : Option (Nat × Tok)} (h : Q (partI p) s) : wpAny (model prog w) A (Builtin.Slice.slicePartIndex (partN p)) Q E s := by
  cases p with
  | none => exact PyProof.Rows.slicePart_none h
  | some p => exact PyProof.Rows.slicePart_int h
theorem getItem_tuple_gen {A : Around} {E : Value → Shared → Prop} {s : Shared} {t sl : Addr} {vs : List Value} {a b : Option (Nat × Tok)} {Q : Value → Shared → Prop} (ht : PyProof.Rows.IsTup s.heap t vs.toArray) (hs : s.heap.IsSliceOf sl (partN a) (partN b) .none)
    (h0 : loN a vs.length = 0 → hiN b vs.length = vs.length → Q (.ref t) s)
    (h : Q (.ref s.heap.objs.size) { s with heap := s.heap.push { cls := .type "tuple", data := .seq ((vs.take (hiN b vs.length)).drop (loN a vs.length)).toArray } })
    (hsz : vs.length ≤ sizeLine) : wpAny (model prog w) A (getItem (.ref t) (.ref sl)) Q E s := by
  have hdrop : sizeOk (.seq ((vs.take (hiN b vs.length)).drop (loN a vs.length)).toArray) := by
    show ((vs.take (hiN b vs.length)).drop (loN a vs.length)).toArray.size ≤ sizeLine
    rw [List.size_toArray, List.length_drop, List.length_take]
    omega
  obtain ⟨os, hos, hcs, hds⟩ := id hs
  have hTs : s.TypeIs (.ref sl) "slice" := ⟨os, hos, hcs⟩
  unfold getItem
  try with_reducible refine wpAny_holding ?_
  first | refine wpAny_bind (wpAny_pure ?_) | skip
  refine wpAny_bind (wpAny_sequenceKey ht.typeIs (by decide) ?_)
  refine wpAny_bind (wpAny_callSpecial?_slot (name := Str.ofString "__getitem__") ht.typeIs PyProof.Rows.slot_tuple_getitem
    (wpAny_call_entry PyProof.Rows.slot_tuple_getitem ht.typeIs PyProof.Rows.entry_tuple_getitem ?_ (PyProof.Rows.args_tuple_getitem _ _)))
  show wpAny _ _ (Builtin.Tuple.tupleItemsOf (.ref t) >>= _) _ _ s
  refine wpAny_bind (PyProof.Rows.tupleItemsOf_ ht ?_)
  refine wpAny_bind (wpAny_typeOf hTs ?_)
  rw [if_pos (by decide)]
  have happ : ∀ {Q : Int × Int × Nat → Shared → Prop}, Q (((loN a vs.length : Nat) : Int), 1, hiN b vs.length - loN a vs.length) s → wpAny (model prog w) A.in1 (Builtin.Slice.sliceApplied (.ref sl) (pure ((vs.toArray.size : Nat) : Int))) Q E s := by
    intro Q h
    unfold Builtin.Slice.sliceApplied Builtin.Slice.sliceFields
    refine wpAny_bind (wpAny_bind (wpAny_field hos hds (x := partN a) rfl (wpAny_bind (wpAny_field hos hds (x := partN b) rfl (wpAny_bind (wpAny_field hos hds (x := .none) rfl (wpAny_pure ?_)))))))
    refine wpAny_bind (PyProof.Rows.slicePart_none ?_)
    show wpAny _ _ (if ((1 : Int) == 0) = true then _ else _) _ _ s
    rw [if_neg (by decide)]
    refine wpAny_bind (slicePart_gen (wpAny_bind (slicePart_gen (wpAny_bind (wpAny_pure ?_)))))
    have e1 : Builtin.Slice.sliceAdjust (partI a) (partI b) 1 ((vs.toArray.size : Nat) : Int) = (((loN a vs.length : Nat) : Int), ((hiN b vs.length : Nat) : Int)) := adjust_gen a b _
    have e2 : Builtin.Slice.slicePlaces ((loN a vs.length : Nat) : Int) ((hiN b vs.length : Nat) : Int) 1 = hiN b vs.length - loN a vs.length := places_nat _ _
    show wpAny _ _ (match Builtin.Slice.sliceAdjust (partI a) (partI b) 1 ((vs.toArray.size : Nat) : Int) with | (lo, hi) => pure (lo, (1 : Int), Builtin.Slice.slicePlaces lo hi 1)) _ _ s
    rw [e1]
    show wpAny _ _ (pure (((loN a vs.length : Nat) : Int), (1 : Int), Builtin.Slice.slicePlaces ((loN a vs.length : Nat) : Int) ((hiN b vs.length : Nat) : Int) 1)) _ _ s
    rw [e2]
    exact wpAny_pure h
  refine wpAny_bind (happ ?_)
  show wpAny _ _ (if (((loN a vs.length : Nat) : Int) == 0 && (1 : Int) == 1 && (hiN b vs.length - loN a vs.length) == vs.toArray.size) = true then _ else _) _ _ s
  by_cases hw : (((loN a vs.length : Nat) : Int) == 0 && (1 : Int) == 1 && (hiN b vs.length - loN a vs.length) == vs.toArray.size) = true
  · rw [if_pos hw]
    simp only [Bool.and_eq_true, beq_iff_eq, List.size_toArray] at hw
    have hl : loN a vs.length = 0 := by omega
    have hh : hiN b vs.length = vs.length := by omega
    first
      | exact wpAny_pure ⟨_, rfl, wpAny_pure (h0 hl hh)⟩
      | exact wpAny_bind (wpAny_pure (wpAny_pure ⟨_, rfl, wpAny_pure (h0 hl hh)⟩))
      | (refine wpAny_bind ?_
         unfold Builtin.Tuple.tupleIsExact
         refine wpAny_bind (wpAny_typeOf ht.typeIs (wpAny_pure ?_))
         rw [if_pos (by decide)]
         exact wpAny_bind (wpAny_rule (wpAny_pure ⟨_, rfl, wpAny_pure (h0 hl hh)⟩)))
  · have hpick : ((List.range (hiN b vs.length - loN a vs.length)).filterMap fun (k : Nat) => vs.toArray[(((loN a vs.length : Nat) : Int) + (k : Int) * 1).toNat]?).toArray = ((vs.take (hiN b vs.length)).drop (loN a vs.length)).toArray := by
      have e : (fun (k : Nat) => vs.toArray[(((loN a vs.length : Nat) : Int) + (k : Int) * 1).toNat]?) = (fun i => vs[i]?) ∘ fun k => loN a vs.length + k := by
        funext k
        have : (((loN a vs.length : Nat) : Int) + (k : Int) * 1).toNat = loN a vs.length + k := by omega
        rw [this]; simp
      rw [e, ← List.filterMap_map, pick_range vs (loN a vs.length) (hiN b vs.length) (by unfold hiN; omega)]
    rw [if_neg hw, hpick]
    first
      | exact wpAny_bind (m := Builtin.Tuple.tupleExact _) (wpAny_newObj_type (wpAny_pure ⟨_, rfl, wpAny_pure h⟩) hdrop)
      | exact wpAny_bind (m := Builtin.Tuple.tupleExact _) (wpAny_newObj_type (wpAny_bind (wpAny_pure (wpAny_pure ⟨_, rfl, wpAny_pure h⟩))) hdrop)
      | exact wpAny_bind (wpAny_bind (m := Builtin.Tuple.tupleExact _) (wpAny_newObj_type (wpAny_pure (wpAny_pure ⟨_, rfl, wpAny_pure h⟩)) hdrop))
      | exact wpAny_bind (wpAny_bind (m := Builtin.Tuple.tupleExact _) (wpAny_newObj_type (wpAny_pure ⟨_, rfl, wpAny_pure h⟩) hdrop))
noncomputable def aSliceU (lo hi : Option Int) (a : V) : Option V := match a.x with
  | .tuple xs => if 0 ≤ lo.getD 0 ∧ 0 ≤ hi.getD 0 then some (V.fix (.tuple ((xs.take (min (hi.getD xs.length).toNat xs.length)).drop (min (lo.getD 0).toNat xs.length))) a.fl) else none
  | _ => none
theorem aSliceU_some {lo hi : Option Int} {a v : V} (h : aSliceU lo hi a = some v) : ∃ xs, a.x = .tuple xs ∧ 0 ≤ lo.getD 0 ∧ 0 ≤ hi.getD 0 ∧ v = V.fix (.tuple ((xs.take (min (hi.getD xs.length).toNat xs.length)).drop (min (lo.getD 0).toNat xs.length))) a.fl := by
  obtain ⟨ax, af⟩ := a
  cases ax with
  | tuple xs =>
    change (if 0 ≤ lo.getD 0 ∧ 0 ≤ hi.getD 0 then some (V.fix (.tuple ((xs.take (min (hi.getD xs.length).toNat xs.length)).drop (min (lo.getD 0).toNat xs.length))) af) else none) = some v at h
    split at h
    · rename_i hc
      exact ⟨xs, rfl, hc.1, hc.2, (Option.some.inj h).symm⟩
    · exact no h
  | _ => exact no h
theorem part_nat {p : Option (Int × Tok)} {l : Option Int} (h : p.map (·.1) = l) (h0 : 0 ≤ l.getD 0) : ∃ q : Option (Nat × Tok), partValue p = partN q ∧ q.map (·.1) = l.map (·.toNat) := by
  subst h
  cases p with
  | none => exact ⟨none, rfl, rfl⟩
  | some p =>
    obtain ⟨i, hi⟩ := Int.eq_ofNat_of_zero_le (show 0 ≤ p.1 from h0)
    refine ⟨some (i, p.2), ?_, ?_⟩
    · show Value.int p.1 p.2 = .int i p.2
      rw [hi]
    · simp [hi]
theorem Ev.sliceU {e : Expr} {lo hi : Option Expr} {p pos : Pos} {m : Rho → Option V} {ml mh : Rho → Option (Option Int)} (h : Ev prog w hb n sc e m) (hl : Pt prog w hb n sc lo ml) (hh : Pt prog w hb n sc hi mh)
    (hs' : ∀ o j, ∃ ops, subscripted (.Slice lo hi none p) false o j = operate ops (getItem o j)) :
    Ev prog w hb n sc (.Subscript e (.Slice lo hi none p) pos) (fun ρ => do let a ← m ρ; let l ← ml ρ; let u ← mh ρ; aSliceU l u a) := by
  intro A Hz env s₀ X C ρ O s v Q E hs hA I
  refine bindI fun a ha => bindI fun l hl' => bindI fun u hu' hm hQ => ?_
  obtain ⟨xs, e1, hi1, hij, rfl⟩ := aSliceU_some hm
  refine PyProof.Rows.Subscript_ (h hs hA I ha fun v₁ s₁ k₁ r₁ => wpAny_Slice (hl hs hA (I.grow k₁) hl' fun p₂ s₂ k₂ e₂ => hh hs hA ((I.grow k₁).grow k₂) hu' fun p₃ s₃ k₃ e₃ => Pt.no hs hA (((I.grow k₁).grow k₂).grow k₃) rfl fun p₄ s₄ k₄ e₄ => ?_))
  obtain ⟨q2, z2, y2⟩ := part_nat e₂ hi1
  obtain ⟨q3, z3, y3⟩ := part_nat e₃ hij
  cases p₄ with
  | some p₄ => cases e₄
  | none =>
  rw [z2, z3]
  have kk := keeps_trans k₁ (keeps_trans k₂ (keeps_trans k₃ (keeps_trans k₄ (keeps_push s₄ { cls := .type "slice", data := .fields #[partN q2, partN q3, .none] }))))
  have kk' := keeps_trans k₂ (keeps_trans k₃ (keeps_trans k₄ (keeps_push s₄ { cls := .type "slice", data := .fields #[partN q2, partN q3, .none] })))
  obtain ⟨ops, e⟩ := hs' v₁ (.ref s₄.heap.objs.size)
  obtain ⟨as, ra, ca, oa⟩ := r₁.grow (keeps_grow kk')
  clear k₁ k₂ k₃ k₄ kk' e₂ e₃ e₄ hl' hu' ha hm r₁ hl hh h hs'
  rw [e1] at ra ca
  induction ra.tupI with | mk ad vs kd a1 a2 => ?_
  have hlv := a2.length
  have l1 : loN q2 vs.length = min (l.getD 0).toNat xs.length := by
    unfold loN
    rw [y2, hlv]
    cases l <;> rfl
  have l2 : hiN q3 vs.length = min (u.getD xs.length).toNat xs.length := by
    unfold hiN
    rw [y3, hlv]
    cases u <;> simp
  refine PyProof.Rows.tail_any (T := "tuple") ⟨_, a1, rfl⟩ PyProof.Rows.slot_tuple_getitem.lookup (getItem_tuple_gen (vs := vs) (a := q2) (b := q3) ⟨_, a1, rfl, _, rfl⟩ ⟨_, Heap.get?_push_size _ rfl, rfl, rfl⟩ (fun h1 h2 => ?_) ?_ (by rw [hlv]; exact (wf_tuple.mp ca).1)) e
  · rw [l1] at h1
    rw [l2, hlv] at h2
    refine hQ _ _ kk ?_
    rw [h1, h2, List.take_length, List.drop_zero]
    exact Rep.fixed ra ca oa
  · obtain ⟨bs, q, hq⟩ := a2.slice (loN q2 vs.length) (hiN q3 vs.length)
    rw [l1, l2] at q ⊢
    exact hQ _ _ (keeps_trans kk (keeps_push _ _)) ((I.grow kk).newT q (wf_slice ca) (oa.mono hq))
noncomputable def enumD (xs : List PyData) : List PyData := xs.zipIdx.map fun p => .tuple [.int p.2, p.1]
theorem enumD_get {xs : List PyData} {i : Nat} {x : PyData} (h : (enumD xs)[i]? = some x) : ∃ y, xs[i]? = some y ∧ x = .tuple [.int i, y] := by
  unfold enumD at h
  rw [List.getElem?_map, List.getElem?_zipIdx] at h
  cases e : xs[i]? with
  | none => rw [e] at h; exact no h
  | some y =>
    rw [e] at h
    simp at h
    exact ⟨y, rfl, h.symm⟩
theorem enumD_len (xs : List PyData) : (enumD xs).length = xs.length := by simp [enumD]
theorem Stream.enum {A : Around} (hh : A.handled = none) {elts : List Expr} {k : Nat} {pos : Pos} {e it l : Addr} (hei : e ≠ it) (hle : l ≠ e) (hli : l ≠ it) (xs : List PyData) (F : List Addr) :
    Stream prog w Hz A (.Tuple elts k pos) e (l :: F) [e, it] [] (enumD xs) (fun i h => (∃ old, IsEnum h e it i old) ∧ h.IsListIter it l i ∧ RD prog w Hz h (.ref l) (.list xs) (l :: F)) where
  frame := fun i h h' W st off hF hw => by
    obtain ⟨⟨old, he⟩, hit, rl⟩ := st
    refine ⟨⟨old, off _ _ he (.inl (hw e (.head _)))⟩, ?_, rl.off off hF⟩
    obtain ⟨o, ho, r⟩ := hit
    exact ⟨o, off _ _ ho (.inl (hw it (.tail _ (.head _)))), r⟩
  tups := fun _ _ _ _ q => nomatch q
  sub := fun _ q => nomatch q
  inert := fun i h st b hb' _ => by
    obtain ⟨⟨old, he⟩, ⟨o, ho, hc, hd⟩, rl⟩ := st
    rcases List.mem_cons.mp hb' with rfl | hb'
    · exact ⟨_, _, _, he, rfl, rfl⟩
    · rw [List.mem_singleton.mp hb']
      exact ⟨o, _, _, ho, hd, hc⟩
  alive := fun i h st => st.2.2.alive
  turn := fun i x s Q E hx st hal hQ => by
    obtain ⟨⟨old, he⟩, hit, rl⟩ := st
    obtain ⟨y, hy, rfl⟩ := enumD_get hx
    obtain ⟨_, _, _, _, q1, q2, a1, a2⟩ := rl.list_inv
    cases q1; cases q2
    · skip
      obtain ⟨v, cs, e1, e2, e3⟩ := a2.get hy
      refine wpAny_pyNext_enum_item he hit ⟨_, a1, rfl, _, rfl⟩ (by simpa using e1) hei fun h' ho hit' hT hsz hk => ?_
      refine wpAny_letOwnedTupleGo_enum ho fun h'' he' hs' => ?_
      have kp : ∀ b o, b ∉ [e, it] → s.heap.get? b = some o → h''.get? b = some o := fun b o hb' q => by
        simp only [List.mem_cons, List.not_mem_nil, or_false, not_or] at hb'
        exact (hs'.2 b hb'.1).trans (hk b o hb'.1 hb'.2 q)
      have K : Inert Hz s.heap h'' := Inert.of (Hz := Hz) (Zs := []) (wr := [e, it]) (fun b hb' _ => by
        rcases List.mem_cons.mp hb' with rfl | hb'
        · exact ⟨_, _, _, he, rfl, rfl⟩
        · rw [List.mem_singleton.mp hb']
          obtain ⟨o, ho, hc, hd⟩ := hit
          exact ⟨o, _, _, ho, hd, hc⟩) (fun _ q => nomatch q) kp
      have hTe : s.heap.objs.size ≠ e := Nat.ne_of_gt (Heap.lt_size he)
      have hTn : s.heap.objs.size ∉ Hz := fun q => by
        obtain ⟨o, eo⟩ := hal _ q
        exact absurd (Heap.lt_size eo) (Nat.lt_irrefl _)
      have r2 : RDs prog w Hz h'' [v] [y] (cs ++ []) := .cons (e2.inert K) .nil
      have r1 : RDs prog w Hz h'' [.int i s.toks, v] [.int i, y] (cs ++ []) := .cons (as := []) (.int _ _) r2
      have rT : RD prog w Hz h'' (.ref s.heap.objs.size) (.tuple [.int i, y]) (cs ++ []) := .tuple (n := 0) ((hs'.2 _ hTe).trans hT) hTn r1
      refine hQ _ (cs ++ []) h'' (s.toks + 1) rT (fun a ha => ?_) ⟨⟨v, by simpa using he'⟩, ?_, (RD.list a1 a2).inert K⟩ kp
      · rw [List.append_nil] at ha; exact .tail _ (e3 a ha)
      · exact hit'.at fun o q => (hs'.2 it (Ne.symm hei)).trans q
  done := fun s Q E st hQ => by
    obtain ⟨⟨old, he⟩, hit, rl⟩ := st
    obtain ⟨_, _, _, _, q1, q2, a1, a2⟩ := rl.list_inv
    cases q1; cases q2
    · skip
      rw [enumD_len] at he hit
      refine wpAny_pyNext_enum_end hh he hit ⟨_, a1, rfl, _, rfl⟩ (by simp [a2.length]) fun h' hx => hQ h' s.toks fun b o hb' q => hx b o (fun e' => hb' (by simp [e'])) q
  self := fun i s Q E st hQ => by
    obtain ⟨⟨old, he⟩, _⟩ := st
    exact wpAny_pyIter_enum he hQ
theorem wfs_enumD {xs : List PyData} (h : wfs xs = true) : wfs (enumD xs) = true := by
  rw [wfs_iff] at *
  intro x hx
  obtain ⟨i, hi⟩ := List.getElem?_of_mem hx
  obtain ⟨y, hy, rfl⟩ := enumD_get hi
  rw [wf_tuple]
  refine ⟨(by decide : 2 ≤ sizeLine), ?_⟩
  simp [wfs, wf, h y (List.mem_of_getElem? hy)]
theorem It.enum {elts : List Expr} {k : Nat} {tpos : Pos} {e : Expr} {np pos : Pos} {m : Rho → Option V} (hg : GName hb "enumerate" (.type "enumerate")) (h : Ev prog w hb n sc e m) (hx : isGlob sc "enumerate" = true) (he : ∀ env, starEach [e] env = [(false, eval e env)]) :
    It prog w hb n sc (.Tuple elts k tpos) (.Call (.Name (Str.ofString "enumerate") np) [e] [] pos) (fun ρ => (m ρ).bind fun v => (listOfD v.x).map fun xs => (enumD xs, v.fl)) := by
  refine ⟨fun _ _ => rfl, ?_⟩
  intro A Hz env s₀ X C ρ O s v Q E hs hA I
  refine bindI fun a ha hm hQ => ?_
  induction mapE hm with | mk xs hxs => ?_
  show wpAny _ _ (eval (.Name (Str.ofString "enumerate") np) env >>= fun f => callWith pos f [] (backTo pos (starEach [e] env)) []) _ _ s
  refine wpAny_bind (eval_glob I (by rw [hs]; exact hx) hg (callWith_ok (hb := hb) (.inr (.inl ⟨_, rfl⟩)) (by rw [he]; rfl) (wpAny_items_cons (h hs hA I ha fun u s₁ k₁ r₁ => wpAny_items_nil ⟨(I.grow k₁).base.grow, ?_⟩) (he env))))
  obtain ⟨as, ra, ca, oa⟩ := r₁
  rw [listOfD_some hxs] at ra ca
  induction ra.listI with | mk l vs kk bs a1 a2 => ?_
  rw [wf_list] at ca
  have hlt := Heap.lt_size a1
  refine call_enumerate_list ⟨_, a1, rfl, _, rfl⟩ fun h' g1 g2 g3 g4 => wpAny_pyIter_enum g1 ?_
  have fresh : ∀ d, s.heap.get? (s₁.heap.objs.size + d) = none := fun d => by
    cases e : s.heap.get? (s₁.heap.objs.size + d) with
    | none => rfl
    | some o => exact absurd (Heap.lt_size (keeps_grow k₁ _ _ e)) (Nat.not_lt.mpr (Nat.le_add_right _ _))
  refine hQ _ _ _ [] _ _ (keeps_trans k₁ ⟨h', s₁.toks, rfl, g4⟩) (Stream.enum hA.handled (l := l) (by simp) (Nat.ne_of_lt (Nat.lt_succ_of_lt hlt)) (Nat.ne_of_lt hlt) xs bs) ⟨⟨.none, g1⟩, g2, (RD.list a1 a2).grow g4⟩ oa (wfs_enumD ca.2) (by rw [enumD_len]; exact ca.1) fun b hb' => ?_
  rcases List.mem_cons.mp hb' with rfl | hb'
  · exact fresh 1
  · rw [List.mem_singleton.mp hb']; exact fresh 0
noncomputable def aAbs : List V → Option V
  | [v] => (intOf v.x).map fun a => ⟨.int (if a < 0 then -a else a), .d⟩
  | _ => none
theorem CallOk.abs : CallOk prog w hb n (.builtin "abs") aAbs := by
  intro A Hz env s₀ X C ρ O s us vs v Q E hA I r hm hQ
  rcases vs with _ | ⟨a, _ | ⟨b, vs⟩⟩
  · exact no hm
  · obtain ⟨i, hi⟩ := mapE (o := intOf a.x) hm
    obtain ⟨_, rfl, r1⟩ := r.one_inv
    obtain ⟨as, ra, ca, oa⟩ := r1
    rw [intOf_some hi] at ra
    induction ra.intI with | mk t => ?_
    exact PyProof.Rows.call_abs_int fun u tk => hQ _ _ (keeps_toks s _) Rep.int
  · exact no hm
noncomputable def aMax : List V → Option V
  | [u, v] => (intOf u.x).bind fun a => (intOf v.x).map fun b => ⟨.int (if b > a then b else a), .d⟩
  | _ => none
theorem Reps.two_inv {s₀ h : Heap} {W : List Addr} {us : List Value} {a b : V} (r : Reps prog w Hz s₀ W h us [a, b]) : ∃ u v, us = [u, v] ∧ Rep prog w Hz s₀ W h u a ∧ Rep prog w Hz s₀ W h v b := by
  cases r with
  | cons r1 r2 =>
    obtain ⟨v, rfl, r3⟩ := r2.one_inv
    exact ⟨_, _, rfl, r1, r3⟩
theorem CallOk.max : CallOk prog w hb n (.builtin "max") aMax := by
  intro A Hz env s₀ X C ρ O s us vs v Q E hA I r hm hQ
  rcases vs with _ | ⟨a, _ | ⟨b, _ | ⟨c, vs⟩⟩⟩
  · exact no hm
  · exact no hm
  · revert hm
    refine bindI fun i hi hm => ?_
    obtain ⟨j, hj⟩ := mapE (o := intOf b.x) hm
    obtain ⟨_, _, rfl, r1, r2⟩ := r.two_inv
    obtain ⟨as, ra, ca, oa⟩ := r1
    obtain ⟨bs, rb, cb, ob⟩ := r2
    rw [intOf_some hi] at ra
    rw [intOf_some hj] at rb
    induction ra.intI with | mk t => ?_
    induction rb.intI with | mk t' => ?_
    refine max_two_ints hA.handled fun h' tk k => ?_
    have hh := hQ (if j > i then .int j t' else .int i t) { s with heap := h', toks := tk } ⟨h', tk, rfl, k⟩
    by_cases h : j > i
    · rw [if_pos h] at hh ⊢
      exact hh (by rw [if_pos h]; exact Rep.int)
    · rw [if_neg h] at hh ⊢
      exact hh (by rw [if_neg h]; exact Rep.int)
  · exact no hm
noncomputable def boolsD : List PyData → Option (List Bool)
  | [] => some []
  | .bool b :: xs => (boolsD xs).map (b :: ·)
  | _ => none
theorem RDs.bools {h : Heap} {vs : List Value} {xs : List PyData} {as : List Addr} (r : RDs prog w Hz h vs xs as) {bs : List Bool} (e : boolsD xs = some bs) : vs = bs.map Value.bool := by
  refine RDs.ind (R := fun vs xs _ => ∀ bs, boolsD xs = some bs → vs = bs.map Value.bool) (fun bs e => ?_) (fun {u us x xs as cs} a _ ih bs e => ?_) r bs e
  · cases e; rfl
  · cases x with
    | bool b =>
      obtain ⟨cs, hc⟩ := mapE (o := boolsD xs) e
      rw [a.bool_inv, ih cs hc]; rfl
    | _ => exact no e
noncomputable def aAll : List V → Option V
  | [⟨.list xs, _⟩] => (boolsD xs).map fun bs => ⟨.bool (bs.all id), .d⟩
  | _ => none
theorem all_range (bs : List Bool) : (List.range bs.length).all (fun i => bs[i]?.getD true) = bs.all id := by
  induction bs with
  | nil => rfl
  | cons b bs ih =>
    rw [List.length_cons, List.range_succ_eq_map, List.all_cons, List.all_map, List.all_cons, ← ih]
    rfl
theorem CallOk.all : CallOk prog w hb n (.builtin "all") aAll := by
  intro A Hz env s₀ X C ρ O s us vs v Q E hA I r hm hQ
  rcases vs with _ | ⟨⟨ax, af⟩, _ | ⟨b, vs⟩⟩
  · exact no hm
  · cases ax with
    | list xs =>
      obtain ⟨bs, hbs⟩ := mapE (o := boolsD xs) hm
      obtain ⟨_, rfl, r1⟩ := r.one_inv
      obtain ⟨as, ra, ca, oa⟩ := r1
      obtain ⟨l, ws, k, cs, rfl, rfl, a1, a2⟩ := ra.list_inv
      have hv := a2.bools hbs
      subst hv
      have hl : s.heap.IsList l (bs.map Value.bool).toArray := ⟨_, a1, rfl, _, rfl⟩
      have hlt : l < s.heap.objs.size := Heap.lt_size a1
      refine call_all_walk (wpAny_pyIter_list hl ?_)
      refine ⟨_, _, _, _, _, _, fun i => bs[i]?.getD true, rfl, Walks.list (A := A.in1) hA.handled _ l (Nat.ne_of_lt hlt) _, ⟨⟨_, Heap.get?_push_size _ rfl, rfl, rfl⟩, hl.push _⟩, ?_, fun h' tk hk => ?_⟩
      · intro i v s' Q' E' hP hQ'
        rw [List.getElem?_toArray, List.getElem?_map] at hP
        cases hb : bs[i]? with
        | none => rw [hb] at hP; cases hP
        | some b =>
          rw [hb] at hP
          cases hP
          dsimp only at hQ'
          rw [hb] at hQ'
          exact wpAny_truthy_bool hQ'
      · rw [List.size_toArray, List.length_map, all_range]
        exact hQ _ _ ⟨h', tk, rfl, fun b o e => hk b o (fun hm => by
          rw [List.mem_singleton.mp hm] at e
          exact absurd (Heap.lt_size e) (Nat.lt_irrefl _)) (Heap.get?_push_of_some _ e)⟩ Rep.bool
    | _ => exact no hm
  · cases ax <;> exact no hm
theorem Ev.callB {x id : String} {es : List Expr} {np pos : Pos} {ms : Rho → Option (List V)} {m : List V → Option V} (hg : GName hb x (.builtin id)) (hes : Evs prog w hb n sc es ms) (hc : CallOk prog w hb n (.builtin id) m) (hx : isGlob sc x = true)
    (hstar : ∀ env : Env, (backTo pos (starEach es env)).any (·.1) = false) : Ev prog w hb n sc (.Call (.Name (Str.ofString x) np) es [] pos) (fun ρ => (ms ρ).bind m) := Ev.call hx hg (.inl ⟨_, rfl⟩) hes hc hstar
theorem Ev.callY {x T : String} {es : List Expr} {np pos : Pos} {ms : Rho → Option (List V)} {m : List V → Option V} (hg : GName hb x (.type T)) (hes : Evs prog w hb n sc es ms) (hc : CallOk prog w hb n (.type T) m) (hx : isGlob sc x = true)
    (hstar : ∀ env : Env, (backTo pos (starEach es env)).any (·.1) = false) : Ev prog w hb n sc (.Call (.Name (Str.ofString x) np) es [] pos) (fun ρ => (ms ρ).bind m) := Ev.call hx hg (.inr (.inl ⟨_, rfl⟩)) hes hc hstar
theorem Ev.cmp2 {l r₁ r₂ : Expr} {o₁ o₂ : CmpOp} {pos : Pos} {ml m₁ m₂ : Rho → Option V} (hl : Ev prog w hb n sc l ml) (h₁ : Ev prog w hb n sc r₁ m₁) (h₂ : Ev prog w hb n sc r₂ m₂) (hm : lastMarks [o₁, o₂] [r₁, r₂] = false) :
    Ev prog w hb n sc (.Compare l [o₁, o₂] [r₁, r₂] pos) (fun ρ => (ml ρ).bind fun a => (m₁ ρ).bind fun b => (aCmp o₁ a.x b.x).bind fun c => bif c then (m₂ ρ).bind fun d => (aCmp o₂ b.x d.x).map fun e => ⟨.bool e, .d⟩ else some ⟨.bool false, .d⟩) := by
  intro A Hz env s₀ X C ρ O s v Q E hs hA I
  refine bindI fun a ha => bindI fun b hb' => bindI fun c hc hv hQ => ?_
  refine PyProof.Rows.Compare_chain (hl hs hA I ha fun u s₁ k₁ q₁ => PyProof.Rows.chain_link (h₁ hs hA (I.grow k₁) hb' fun u' s₂ k₂ q₂ => cmp_ok hA hc (q₁.grow (keeps_grow k₂)) q₂ fun s' k => wpAny_truthy_bool ?_)) hm
  have kk := keeps_trans k₁ (keeps_trans k₂ k)
  cases c with
  | false =>
    obtain rfl := Option.some.inj hv
    exact hQ _ s' kk Rep.bool
  | true =>
    revert hv
    refine bindI fun d hd hv => ?_
    obtain ⟨e, he⟩ := mapE (o := aCmp o₂ b.x d.x) hv
    refine PyProof.Rows.chain_last (h₂ hs hA (I.grow kk) hd fun u'' s₃ k₃ q₃ => ?_)
    exact cmp_ok hA he (q₂.grow (Grow.trans (keeps_grow k) (keeps_grow k₃))) q₃ fun s'' k' => hQ _ s'' (keeps_trans kk (keeps_trans k₃ k')) Rep.bool
theorem Tr.cmp2 {l r₁ r₂ : Expr} {o₁ o₂ : CmpOp} {pos : Pos} {ml m₁ m₂ : Rho → Option V} (hl : Ev prog w hb n sc l ml) (h₁ : Ev prog w hb n sc r₁ m₁) (h₂ : Ev prog w hb n sc r₂ m₂) (hm : lastMarks [o₁, o₂] [r₁, r₂] = false) :
    Tr prog w hb n sc (.Compare l [o₁, o₂] [r₁, r₂] pos) (fun ρ => (ml ρ).bind fun a => (m₁ ρ).bind fun b => (aCmp o₁ a.x b.x).bind fun c => bif c then (m₂ ρ).bind fun d => aCmp o₂ b.x d.x else some false) := by
  intro A Hz env s₀ X C ρ O s v Q E hs hA I
  refine bindI fun a ha => bindI fun b hb' => bindI fun c hc hv hQ => ?_
  refine PyProof.Rows.isTrue_chain (hl hs hA I ha fun u s₁ k₁ q₁ => PyProof.Rows.test_link (h₁ hs hA (I.grow k₁) hb' fun u' s₂ k₂ q₂ => cmp_ok hA hc (q₁.grow (keeps_grow k₂)) q₂ fun s' k => wpAny_truthy_bool ?_)) hm
  have kk := keeps_trans k₁ (keeps_trans k₂ k)
  cases c with
  | false =>
    obtain rfl := Option.some.inj hv
    exact hQ s' kk
  | true =>
    revert hv
    refine bindI fun d hd hv => ?_
    refine PyProof.Rows.test_last (h₂ hs hA (I.grow kk) hd fun u'' s₃ k₃ q₃ => ?_)
    exact cmp_ok hA hv (q₂.grow (Grow.trans (keeps_grow k) (keeps_grow k₃))) q₃ fun s'' k' => wpAny_truthy_bool (hQ s'' (keeps_trans kk (keeps_trans k₃ k')))
noncomputable def aTuple : List V → Option V
  | [⟨.list xs, f⟩] => some (V.fix (.tuple xs) f)
  | [⟨.tuple xs, f⟩] => some (V.fix (.tuple xs) f)
  | _ => none
theorem CallOk.tuple : CallOk prog w hb n (.type "tuple") aTuple := by
  intro A Hz env s₀ X C ρ O s us vs v Q E hA I r hm hQ
  rcases vs with _ | ⟨⟨ax, af⟩, _ | ⟨b, vs⟩⟩
  · exact no hm
  · obtain ⟨_, rfl, r1⟩ := r.one_inv
    obtain ⟨as, ra, ca, oa⟩ := r1
    cases ax with
    | list xs =>
      obtain rfl := Option.some.inj hm
      obtain ⟨l, ws, k, cs, rfl, rfl, a1, a2⟩ := ra.list_inv
      have c1 := wf_list.mp ca
      refine call_tuple_list (items := ws.toArray) ⟨_, a1, rfl, _, rfl⟩ (fun h' kk => ?_) (by rw [List.size_toArray, a2.length]; exact c1.1)
      have I' : InF prog w Hz hb s₀ X env C ρ O { s with heap := h' } := I.grow ⟨h', s.toks, rfl, kk⟩
      exact hQ _ _ ⟨_, s.toks, rfl, Grow.trans kk (Grow.push _ _)⟩ (I'.newT (a2.grow kk) (wf_tuple.mpr c1) (oa.mono fun _ h => .tail _ h))
    | tuple xs =>
      obtain rfl := Option.some.inj hm
      obtain ⟨l, ws, k, rfl, a1, a2⟩ := id ra.tuple_inv
      exact call_tuple_same ⟨_, a1, rfl, _, rfl⟩ (hQ _ _ (keeps_refl s) (Rep.fixed ra ca oa))
    | _ => exact no hm
  · cases ax <;> exact no hm
noncomputable def repD : PyData → PyData → Option V
  | .list xs, .int k => if flats xs = true ∧ (0 ≤ k ∧ k < 1000) ∧ xs.length ≤ 1000 then some ⟨.list (List.replicate k.toNat xs).flatten, .d⟩ else none
  | _, _ => none
theorem RDs.times {h : Heap} {vs : List Value} {xs : List PyData} (r : RDs prog w Hz h vs xs []) : ∀ k : Nat, RDs prog w Hz h (List.replicate k vs).flatten (List.replicate k xs).flatten []
  | 0 => .nil
  | k + 1 => by
    rw [List.replicate_succ, List.replicate_succ, List.flatten_cons, List.flatten_cons]
    exact r.append (r.times k)
theorem fold_flat {α : Type} : ∀ (l : List (Array α)) (a : Array α), (List.foldl (fun x y => x ++ y) a l) = (a.toList ++ (l.map Array.toList).flatten).toArray
  | [], a => by simp
  | b :: l, a => by rw [List.foldl_cons, fold_flat l]; simp
theorem fold_times (vs : List Value) (k : Nat) : (List.foldl (fun x y => x ++ y) #[] (List.replicate (if vs.toArray.isEmpty = true then 0 else k) vs.toArray)) = ((List.replicate k vs).flatten).toArray := by
  rw [fold_flat]
  cases vs with
  | nil => simp
  | cons v vs => simp
theorem wfs_times {xs : List PyData} (h : wfs xs = true) (k : Nat) : wfs (List.replicate k xs).flatten = true := by
  rw [wfs_iff]
  intro x hx
  obtain ⟨l, hl, hx⟩ := List.mem_flatten.mp hx
  rw [List.eq_of_mem_replicate hl] at hx
  exact (wfs_iff _).mp h x hx
theorem Ev.rep {l r : Expr} {pos : Pos} {ml mr : Rho → Option V} (hl : Ev prog w hb n sc l ml) (hr : Ev prog w hb n sc r mr) :
    Ev prog w hb n sc (.BinOp l .Mult r pos) (fun ρ => (ml ρ).bind fun a => (mr ρ).bind fun b => repD a.x b.x) := by
  intro A Hz env s₀ X C ρ O s v Q E hs hA I
  refine bindI fun a ha => bindI fun b hb' hm hQ => ?_
  refine wpAny_BinOp (hl hs hA I ha fun u s₁ k₁ r₁ => hr hs hA (I.grow k₁) hb' fun u' s₂ k₂ r₂ => ?_)
  have kk := keeps_trans k₁ k₂
  have r₁ := r₁.grow (keeps_grow k₂)
  have I₂ := (I.grow k₁).grow k₂
  clear hl hr ha hb'
  obtain ⟨ax, af⟩ := a
  obtain ⟨bx, bf⟩ := b
  obtain ⟨as, ra, ca, oa⟩ := r₁
  obtain ⟨bs, rb, cb, ob⟩ := r₂
  dsimp only at hm ra rb ca cb
  cases ax with
  | list xs =>
    cases bx with
    | int k =>
      revert hm
      refine ifI fun hc hm => ?_
      obtain rfl := Option.some.inj hm
      obtain ⟨l, ws, kd, cs, rfl, rfl, a1, a2⟩ := ra.list_inv
      obtain ⟨t, rfl⟩ := rb.int_inv
      have c1 := wf_list.mp ca
      have hf := a2.flat_foot hc.1
      subst hf
      have hlen : ws.toArray.size = xs.length := by rw [List.size_toArray, a2.length]
      have hk : k.toNat ≤ 1000 := by lia
      have hmul : xs.length * k.toNat ≤ 1000 * 1000 := Nat.mul_le_mul hc.2.2 hk
      refine wpAny_binaryOp_repeat_ref (T := "list") (U := "int") (by decide) ⟨_, a1, rfl⟩ (fun s' => typeIs_int s' k t) noFill_list_mul F.fills_int_mul F.slot_int_rmul repeat_list F.slot_int_index.lookup
        (call_meets F.slot_int_rmul (typeIs_int s₂ k t) F.entry_int_rmul (F.args_int_rmul_2 _ _) (int___rmul___int_list k t l ws.toArray kd)
          ⟨a1, rfl, ⟨_, a1, rfl⟩, call_meets F.slot_list_mul ⟨_, a1, rfl⟩ F.entry_list_mul (F.args_list_mul_2 _ _)
            (AutoListH.list___mul___list_int_3 l ws.toArray kd k t (by simp [Builtin.List.listFitsIndex]; lia) (by rw [hlen]; lia) (by rw [hlen]; simp [Builtin.List.listTooLong, sizeLine]; lia)) ⟨a1, ?_⟩⟩)
      rw [fold_times]
      refine hQ _ _ (keeps_trans kk (keeps_push _ _)) ?_
      have := I₂.newL (f := .d) (m := 0) (a2.times k.toNat) (wf_list.mpr ⟨?_, wfs_times c1.2 _⟩) FlOk.nil
      · have e : V.newL (List.replicate k.toNat xs).flatten .d = ⟨.list (List.replicate k.toNat xs).flatten, .d⟩ := by unfold V.newL; split <;> rfl
        rw [e] at this
        exact this
      · rw [List.length_flatten, List.map_replicate, List.sum_replicate_nat, Nat.mul_comm]
        exact Nat.le_trans hmul (by decide)
    | _ => exact no hm
  | _ => exact no hm
end

section
section
variable {prog : Program} {w : World} {A : Around} {E : Value → Shared → Prop} {s : Shared}
theorem nextOf_tuple_item {it t : Addr} {i : Nat} {items : Array Value} {x : Value} {Q : Value → Shared → Prop} (hit : s.heap.IsTupleIter it t i) (ht : s.heap.IsTuple t items) (hx : items[i]? = some x)
    (hQ : ∀ h', h'.IsTupleIter it t (i + 1) → Heap.SameBut it s.heap h' → Q x { s with heap := h' }) : wpAny (model prog w) A (Builtin.SmallTypes.nextOf (.ref it)) Q E s := by
  obtain ⟨o, ho, hc, hd⟩ := id hit
  obtain ⟨ot, hot, _, nt, hdt⟩ := ht
  unfold Builtin.SmallTypes.nextOf
  refine wpAny_bind (wpAny_callSpecial?_slot (name := Str.ofString "__next__") hit.typeIs F.slot_tuple_iterator_next (wpAny_call_entry F.slot_tuple_iterator_next hit.typeIs F.entry_tuple_iterator_next ?_ (F.args_tuple_iterator_next_1 _)))
  show wpAny _ _ (field (.ref it) 0 >>= _) _ _ s
  refine wpAny_bind (wpAny_field ho hd (x := .ref t) rfl ?_)
  show wpAny _ _ (if (Value.ref t == Value.none) = true then _ else _) _ _ s
  rw [if_neg (show ¬ ((Value.ref t == Value.none) = true) from Bool.false_ne_true)]
  show wpAny _ _ (field (.ref it) 1 >>= _) _ _ s
  refine wpAny_bind (wpAny_field ho hd (x := .int i 0) rfl ?_)
  show wpAny _ _ (seqItems? (.ref t) >>= _) _ _ s
  refine wpAny_bind (wpAny_seqItems hot hdt ?_)
  simp only [Int.toNat_natCast, hx]
  refine wpAny_bind (wpAny_setField ho hd (by simp) (wpAny_pure ⟨x, rfl, wpAny_pure (hQ _ ?_ (Heap.SameBut.update ..))⟩))
  exact ⟨_, Heap.get?_update_self _ ho (Obj.isFreed_of_fields (Obj.data_mapFields hd _)), (Obj.cls_mapFields ..).trans hc, by
    rw [Obj.data_mapFields hd]; simp [rawInt]⟩
theorem nextOf_tuple_end {it t : Addr} {i : Nat} {items : Array Value} {Q : Value → Shared → Prop} (hh : A.handled = none) (hit : s.heap.IsTupleIter it t i) (ht : s.heap.IsTuple t items) (hx : items[i]? = none)
    (hE : ∀ h' e, Heap.ExtBut it s.heap h' → (∃ o, h'.get? e = some o ∧ o.cls = .type "StopIteration") → E (.ref e) { s with heap := h' }) : wpAny (model prog w) A (Builtin.SmallTypes.nextOf (.ref it)) Q E s := by
  obtain ⟨o, ho, hc, hd⟩ := id hit
  obtain ⟨ot, hot, _, nt, hdt⟩ := ht
  unfold Builtin.SmallTypes.nextOf
  refine wpAny_bind (wpAny_callSpecial?_slot (name := Str.ofString "__next__") hit.typeIs F.slot_tuple_iterator_next (wpAny_call_entry F.slot_tuple_iterator_next hit.typeIs F.entry_tuple_iterator_next ?_ (F.args_tuple_iterator_next_1 _)))
  show wpAny _ _ (field (.ref it) 0 >>= _) _ _ s
  refine wpAny_bind (wpAny_field ho hd (x := .ref t) rfl ?_)
  show wpAny _ _ (if (Value.ref t == Value.none) = true then _ else _) _ _ s
  rw [if_neg (show ¬ ((Value.ref t == Value.none) = true) from Bool.false_ne_true)]
  show wpAny _ _ (field (.ref it) 1 >>= _) _ _ s
  refine wpAny_bind (wpAny_field ho hd (x := .int i 0) rfl ?_)
  show wpAny _ _ (seqItems? (.ref t) >>= _) _ _ s
  refine wpAny_bind (wpAny_seqItems hot hdt ?_)
  simp only [Int.toNat_natCast, hx]
  refine wpAny_bind (wpAny_rule (wpAny_bind (wpAny_setField ho hd (by simp) ?_)))
  show wpAny _ _ (newExc (.type "StopIteration") [] >>= _) _ _ _
  refine wpAny_bind ?_
  simp only [newExc, newTuple]
  refine wpAny_bind (wpAny_newObj_type ?_ (by size_fits))
  refine wpAny_bind (m := firstArgMember _ _) (wpAny_of_eq (a := Value.none) (by first | rfl | (simp only [firstArgMember]; rfl)) ?_)
  refine wpAny_newObj_type ?_ (by size_fits)
  simp only [raiseNew]
  refine wpAny_bind (wpAny_handled ?_)
  first | rw [show A.in1.handled = none from hh] | rw [hh]
  refine wpAny_bind (wpAny_pure (wpAny_throw ?_))
  exact hE _ _ (((Heap.SameBut.update ..).extBut.push _).push _) ⟨_, Heap.get?_push_size _ rfl, rfl⟩
end
end

section
structure Apart2 (z TI TO i1 i2 : Addr) (fp gp : List Addr) : Prop where
  TIz : TI ≠ z
  TOz : TO ≠ z
  i1z : i1 ≠ z
  i2z : i2 ≠ z
  TITO : TI ≠ TO
  TIi1 : TI ≠ i1
  TIi2 : TI ≠ i2
  TOi1 : TO ≠ i1
  TOi2 : TO ≠ i2
  i12 : i1 ≠ i2
  fz : z ∉ fp
  fTO : TO ∉ fp
  fi : i2 ∉ fp
  gz : z ∉ gp
  gTO : TO ∉ gp
  gi : i1 ∉ gp
section
variable {prog : Program} {w : World} {A : Around} {E : Value → Shared → Prop} {s : Shared} {z TI TO i1 i2 : Addr} {fp gp : List Addr} {n1 n2 k : Nat} {P1 P2 : Nat → Value → Prop} {S1 S2 : Nat → Heap → Prop} {a b : Value}
theorem draws_but {it c : Addr} {fp : List Addr} {n k : Nat} {P : Nat → Value → Prop} {S : Nat → Heap → Prop} (D : Draws prog w A it fp n P S) {h h' : Heap} (st : S k h) (x : Heap.ExtBut c h h') (hc : c ∉ fp) : S k h' :=
  D.frame _ _ _ st fun d hd o e => x d o (fun q => hc (q ▸ hd)) e
theorem zip_item {Q : Value → Shared → Prop} (D1 : Draws prog w A i1 fp n1 P1 S1) (D2 : Draws prog w A i2 gp n2 P2 S2) (D : Apart2 z TI TO i1 i2 fp gp) (hz : IsZip s.heap z TI TO .none) (hTI : IsPair s.heap TI (.ref i1) (.ref i2)) (hTO : IsPair s.heap TO a b)
    (st1 : S1 k s.heap) (st2 : S2 k s.heap) (h1 : k < n1) (h2 : k < n2)
    (hQ : ∀ x y h' tk, P1 k x → P2 k y → IsZip h' z TI TO (rawInt s.heap.objs.size) → IsPair h' TO x y → S1 (k + 1) h' → S2 (k + 1) h' → IsPair h' s.heap.objs.size x y →
      (∀ c o, c ≠ z → c ≠ TO → c ≠ i1 → c ≠ i2 → s.heap.get? c = some o → h'.get? c = some o) → Q (.ref s.heap.objs.size) { s with heap := h', toks := tk }) :
    wpAny (model prog w) A (Builtin.«zip.__next__» ⟨[.ref z], []⟩) (fun fin s' => ∃ v, fin = .done (.ret v) ∧ Q v s') E s := by
  show wpAny _ _ (field (.ref z) 2 >>= _) _ _ _
  refine wpAny_bind (wpAny_field hz rfl (x := .bool false) rfl ?_)
  show wpAny _ _ (field (.ref z) 3 >>= _) _ _ _
  refine wpAny_bind (wpAny_field hz rfl (x := .ref TI) rfl ?_)
  refine wpAny_bind (wpAny_seqItems hTI rfl ?_)
  show wpAny _ _ (Builtin.SmallTypes.ownedTupleIsFree (.ref z) >>= _) _ _ _
  refine wpAny_bind ?_
  unfold Builtin.SmallTypes.ownedTupleIsFree
  refine wpAny_bind (wpAny_field hz rfl (x := .none) rfl (wpAny_pure ?_))
  simp only [if_true]
  refine wpAny_bind (wpAny_rule ?_)
  refine wpAny_bind (wpAny_field hz rfl (x := .ref TO) rfl ?_)
  refine wpAny_bind (wpAny_setField_rec hz (by simp) fun h₁ hz₁ hs₁ => ?_)
  replace hz₁ : IsZip h₁ z TI TO .ellipsis := hz₁
  refine wpAny_bind ?_
  simp only [List.zipIdx_cons, List.zipIdx_nil, List.forIn_cons, List.forIn_nil]
  refine wpAny_bind (wpAny_bind (wpAny_onRaise ?_))
  show wpAny _ _ (Builtin.SmallTypes.nextOf (.ref i1) >>= _) _ _ _
  refine wpAny_bind (D1.item k _ _ _ h1 (draws_but D1 st1 hs₁.extBut D.fz) fun x h₂ t₂ p1 st1₂ hs₂ => wpAny_pure ?_)
  have hTO₂ : IsPair h₂ TO a b := hs₂.extBut _ _ D.TOi1 (hs₁.extBut _ _ D.TOz hTO)
  refine wpAny_bind (wpAny_seqItems hTO₂ rfl ?_)
  refine wpAny_bind (wpAny_updateSeq_pair hTO₂ fun h₃ hTO₃ hs₃ => ?_)
  replace hTO₃ : IsPair h₃ TO x b := hTO₃
  refine wpAny_bind (wpAny_letGo (wpAny_pure ?_))
  refine wpAny_bind (wpAny_bind (wpAny_onRaise ?_))
  show wpAny _ _ (Builtin.SmallTypes.nextOf (.ref i2) >>= _) _ _ _
  refine wpAny_bind (D2.item k _ _ _ h2 (draws_but D2 (draws_but D2 (draws_but D2 st2 hs₁.extBut D.gz) hs₂.extBut D.gi) hs₃.extBut D.gTO) fun y h₄ t₄ p2 st2₄ hs₄ => wpAny_pure ?_)
  have hTO₄ : IsPair h₄ TO x b := hs₄.extBut _ _ D.TOi2 hTO₃
  refine wpAny_bind (wpAny_seqItems hTO₄ rfl ?_)
  refine wpAny_bind (wpAny_updateSeq_pair hTO₄ fun h₅ hTO₅ hs₅ => ?_)
  replace hTO₅ : IsPair h₅ TO x y := hTO₅
  refine wpAny_bind (wpAny_letGo (wpAny_pure (wpAny_pure ?_)))
  refine wpAny_bind (wpAny_seqItems hTO₅ rfl ?_)
  refine wpAny_bind (wpAny_newTuple ?_)
  have hsz : h₅.objs.size = s.heap.objs.size := by rw [hs₅.1, hs₄.1, hs₃.1, hs₂.1, hs₁.1]
  have hz₅ : IsZip h₅ z TI TO .ellipsis := hs₅.extBut _ _ D.TOz.symm (hs₄.extBut _ _ D.i2z.symm (hs₃.extBut _ _ D.TOz.symm (hs₂.extBut _ _ D.i1z.symm hz₁)))
  have hk₅ : ∀ c o, c ≠ z → c ≠ TO → c ≠ i1 → c ≠ i2 → s.heap.get? c = some o → h₅.get? c = some o := fun c o c1 c2 c3 c4 e =>
    hs₅.extBut _ _ c2 (hs₄.extBut _ _ c4 (hs₃.extBut _ _ c2 (hs₂.extBut _ _ c3 (hs₁.extBut _ _ c1 e))))
  have s1₅ : S1 (k + 1) h₅ := draws_but D1 (draws_but D1 (draws_but D1 st1₂ hs₃.extBut D.fTO) hs₄.extBut D.fi) hs₅.extBut D.fTO
  have s2₅ : S2 (k + 1) h₅ := draws_but D2 st2₄ hs₅.extBut D.gTO
  have hzlt : z < h₅.objs.size := Heap.lt_size hz₅
  show wpAny _ _ (Builtin.SmallTypes.ownedTupleHandOut (.ref z) (.ref h₅.objs.size) >>= _) _ _ _
  refine wpAny_bind ?_
  unfold Builtin.SmallTypes.ownedTupleHandOut
  have hz₆ : IsZip (h₅.push { cls := .type "tuple", data := .seq #[x, y] }) z TI TO .ellipsis := Heap.get?_push_of_some _ hz₅
  refine wpAny_bind (wpAny_setField_rec hz₆ (by simp) fun h₇ hz₇ hs₇ => ?_)
  replace hz₇ : IsZip h₇ z TI TO (rawInt h₅.objs.size) := hz₇
  refine wpAny_setField_rec hz₇ (by simp) fun h₈ hz₈ hs₈ => ?_
  replace hz₈ : IsZip h₈ z TI TO (rawInt h₅.objs.size) := hz₈
  have up : ∀ c o, c ≠ z → h₅.get? c = some o → h₈.get? c = some o := fun c o c1 e => hs₈.extBut _ _ c1 (hs₇.extBut _ _ c1 (Heap.get?_push_of_some _ e))
  have hT₈ : IsPair h₈ h₅.objs.size x y := hs₈.extBut _ _ (Nat.ne_of_gt hzlt) (hs₇.extBut _ _ (Nat.ne_of_gt hzlt) (Heap.get?_push_size _ rfl))
  rw [hsz] at hz₈ hT₈
  refine wpAny_pure ⟨_, rfl, ?_⟩
  show Q (.ref h₅.objs.size) _
  rw [hsz]
  exact hQ x y h₈ t₄ p1 p2 hz₈ (up _ _ D.TOz hTO₅) (D1.frame _ _ _ s1₅ fun c hc o e => up c o (fun q => D.fz (q ▸ hc)) e) (D2.frame _ _ _ s2₅ fun c hc o e => up c o (fun q => D.gz (q ▸ hc)) e) hT₈ fun c o c1 c2 c3 c4 e => up c o c1 (hk₅ c o c1 c2 c3 c4 e)
theorem zip_end {Q : Fin → Shared → Prop} (D1 : Draws prog w A i1 fp n1 P1 S1) (D2 : Draws prog w A i2 gp n2 P2 S2) (D : Apart2 z TI TO i1 i2 fp gp) (hz : IsZip s.heap z TI TO .none) (hTI : IsPair s.heap TI (.ref i1) (.ref i2)) (hTO : IsPair s.heap TO a b)
    (st1 : S1 k s.heap) (st2 : S2 k s.heap) (hend : k = n1 ∨ k < n1 ∧ k = n2)
    (hE : ∀ h' tk e, (∀ c o, c ≠ z → c ≠ TO → c ≠ i1 → c ≠ i2 → s.heap.get? c = some o → h'.get? c = some o) → (∃ o, h'.get? e = some o ∧ o.cls = .type "StopIteration") → E (.ref e) { s with heap := h', toks := tk }) :
    wpAny (model prog w) A (Builtin.«zip.__next__» ⟨[.ref z], []⟩) Q E s := by
  show wpAny _ _ (field (.ref z) 2 >>= _) _ _ _
  refine wpAny_bind (wpAny_field hz rfl (x := .bool false) rfl ?_)
  show wpAny _ _ (field (.ref z) 3 >>= _) _ _ _
  refine wpAny_bind (wpAny_field hz rfl (x := .ref TI) rfl ?_)
  refine wpAny_bind (wpAny_seqItems hTI rfl ?_)
  show wpAny _ _ (Builtin.SmallTypes.ownedTupleIsFree (.ref z) >>= _) _ _ _
  refine wpAny_bind ?_
  unfold Builtin.SmallTypes.ownedTupleIsFree
  refine wpAny_bind (wpAny_field hz rfl (x := .none) rfl (wpAny_pure ?_))
  simp only [if_true]
  refine wpAny_bind (wpAny_rule ?_)
  refine wpAny_bind (wpAny_field hz rfl (x := .ref TO) rfl ?_)
  refine wpAny_bind (wpAny_setField_rec hz (by simp) fun h₁ hz₁ hs₁ => ?_)
  replace hz₁ : IsZip h₁ z TI TO .ellipsis := hz₁
  refine wpAny_bind ?_
  simp only [List.zipIdx_cons, List.zipIdx_nil, List.forIn_cons, List.forIn_nil]
  refine wpAny_bind (wpAny_bind (wpAny_onRaise ?_))
  show wpAny _ _ (Builtin.SmallTypes.nextOf (.ref i1) >>= _) _ _ _
  rcases hend with rfl | ⟨hlt, rfl⟩
  · refine wpAny_bind (D1.done _ _ _ (draws_but D1 st1 hs₁.extBut D.fz) fun h₂ e hs₂ he => ?_)
    obtain ⟨oe, hoe, hce⟩ := he
    have hz₂ : IsZip h₂ z TI TO .ellipsis := hs₂ _ _ D.i1z.symm hz₁
    have hez : e ≠ z := fun x => by subst x; rw [hz₂] at hoe; cases hoe; simp at hce
    exact wpAny_setField_rec hz₂ (by simp) fun h₃ _ hs₃ => hE h₃ _ e (fun c o c1 _ c3 _ x => hs₃.extBut _ _ c1 (hs₂ _ _ c3 (hs₁.extBut _ _ c1 x))) ⟨oe, hs₃.extBut _ _ hez hoe, hce⟩
  · refine wpAny_bind (D1.item _ _ _ _ hlt (draws_but D1 st1 hs₁.extBut D.fz) fun x h₂ t₂ p1 st1₂ hs₂ => wpAny_pure ?_)
    have hTO₂ : IsPair h₂ TO a b := hs₂.extBut _ _ D.TOi1 (hs₁.extBut _ _ D.TOz hTO)
    refine wpAny_bind (wpAny_seqItems hTO₂ rfl ?_)
    refine wpAny_bind (wpAny_updateSeq_pair hTO₂ fun h₃ hTO₃ hs₃ => ?_)
    refine wpAny_bind (wpAny_letGo (wpAny_pure ?_))
    refine wpAny_bind (wpAny_bind (wpAny_onRaise ?_))
    show wpAny _ _ (Builtin.SmallTypes.nextOf (.ref i2) >>= _) _ _ _
    refine wpAny_bind (D2.done _ _ _ (draws_but D2 (draws_but D2 (draws_but D2 st2 hs₁.extBut D.gz) hs₂.extBut D.gi) hs₃.extBut D.gTO) fun h₄ e hs₄ he => ?_)
    obtain ⟨oe, hoe, hce⟩ := he
    have hz₄ : IsZip h₄ z TI TO .ellipsis := hs₄ _ _ D.i2z.symm (hs₃.extBut _ _ D.TOz.symm (hs₂.extBut _ _ D.i1z.symm hz₁))
    have hez : e ≠ z := fun x => by subst x; rw [hz₄] at hoe; cases hoe; simp at hce
    exact wpAny_setField_rec hz₄ (by simp) fun h₅ _ hs₅ => hE h₅ _ e (fun c o c1 c2 c3 c4 x => hs₅.extBut _ _ c1 (hs₄ _ _ c4 (hs₃.extBut _ _ c2 (hs₂.extBut _ _ c3 (hs₁.extBut _ _ c1 x))))) ⟨oe, hs₅.extBut _ _ hez hoe, hce⟩
theorem next_zip {Q : Option Value → Shared → Prop} (D1 : Draws prog w A.in1 i1 fp n1 P1 S1) (D2 : Draws prog w A.in1 i2 gp n2 P2 S2) (D : Apart2 z TI TO i1 i2 fp gp) (hz : IsZip s.heap z TI TO .none) (hTI : IsPair s.heap TI (.ref i1) (.ref i2)) (hTO : IsPair s.heap TO a b)
    (st1 : S1 k s.heap) (st2 : S2 k s.heap) (h1 : k < n1) (h2 : k < n2)
    (hQ : ∀ x y h' tk, P1 k x → P2 k y → IsZip h' z TI TO (rawInt s.heap.objs.size) → IsPair h' TO x y → S1 (k + 1) h' → S2 (k + 1) h' → IsPair h' s.heap.objs.size x y →
      (∀ c o, c ≠ z → c ≠ TO → c ≠ i1 → c ≠ i2 → s.heap.get? c = some o → h'.get? c = some o) → Q (some (.ref s.heap.objs.size)) { s with heap := h', toks := tk }) : wpAny (model prog w) A (pyNext (.ref z)) Q E s := by
  have hT : s.TypeIs (.ref z) "zip" := ⟨_, hz, rfl⟩
  unfold pyNext
  exact wpAny_bind (wpAny_attempt (wpAny_callSpecial?_slot (name := Str.ofString "__next__") hT F.slot_zip_next (wpAny_call_entry F.slot_zip_next hT F.entry_zip_next
    (zip_item D1 D2 D hz hTI hTO st1 st2 h1 h2 fun x y h' tk p1 p2 a1 a2 a3 a4 a5 a6 => wpAny_pure (hQ x y h' tk p1 p2 a1 a2 a3 a4 a5 a6)) (F.args_zip_next_1 _))))
theorem next_zip_end {Q : Option Value → Shared → Prop} (D1 : Draws prog w A.in1 i1 fp n1 P1 S1) (D2 : Draws prog w A.in1 i2 gp n2 P2 S2) (D : Apart2 z TI TO i1 i2 fp gp) (hz : IsZip s.heap z TI TO .none) (hTI : IsPair s.heap TI (.ref i1) (.ref i2)) (hTO : IsPair s.heap TO a b)
    (st1 : S1 k s.heap) (st2 : S2 k s.heap) (hend : k = n1 ∨ k < n1 ∧ k = n2)
    (hQ : ∀ h' tk, (∀ c o, c ≠ z → c ≠ TO → c ≠ i1 → c ≠ i2 → s.heap.get? c = some o → h'.get? c = some o) → Q none { s with heap := h', toks := tk }) : wpAny (model prog w) A (pyNext (.ref z)) Q E s := by
  have hT : s.TypeIs (.ref z) "zip" := ⟨_, hz, rfl⟩
  unfold pyNext
  refine wpAny_bind (wpAny_attempt (wpAny_callSpecial?_slot (name := Str.ofString "__next__") hT F.slot_zip_next (wpAny_call_entry F.slot_zip_next hT F.entry_zip_next
    (zip_end D1 D2 D hz hTI hTO st1 st2 hend fun h' tk e hk he => ?_) (F.args_zip_next_1 _))))
  obtain ⟨o, ho, hc⟩ := he
  exact wpAny_bind (wpAny_isInstance (T := "StopIteration") (b := true) ⟨o, ho, hc⟩ isSubtype_stop (wpAny_pure (hQ _ _ hk)))
end
end

section
variable {prog : Program} {w : World} {Hz : List Addr} {hb : Heap} {n : Nat} {sc : Scope}
noncomputable def zipD (xs ys : List PyData) : List PyData := (xs.zip ys).map fun p => .tuple [p.1, p.2]
theorem zipD_get {xs ys : List PyData} {i : Nat} {x : PyData} (h : (zipD xs ys)[i]? = some x) : ∃ y z, xs[i]? = some y ∧ ys[i]? = some z ∧ x = .tuple [y, z] := by
  unfold zipD at h
  rw [List.getElem?_map] at h
  obtain ⟨⟨y, z⟩, h1⟩ := mapE h
  rw [List.getElem?_zip_eq_some] at h1
  exact ⟨y, z, h1.1, h1.2, rfl⟩
theorem zipD_len (xs ys : List PyData) : (zipD xs ys).length = min xs.length ys.length := by simp [zipD]
theorem pair_tup {h : Heap} {T : Addr} {a b : Value} (hT : IsPair h T a b) : ∃ o, h.get? T = some o ∧ Tup o := ⟨_, hT, [a, b], 0, rfl⟩
theorem wfs_zipD {xs ys : List PyData} (h : wfs xs = true) (h' : wfs ys = true) : wfs (zipD xs ys) = true := by
  rw [wfs_iff] at *
  intro x hx
  obtain ⟨i, hi⟩ := List.getElem?_of_mem hx
  obtain ⟨y, z, hy, hz, rfl⟩ := zipD_get hi
  rw [wf_tuple]
  refine ⟨(by decide : 2 ≤ sizeLine), ?_⟩
  simp [wfs, h y (List.mem_of_getElem? hy), h' z (List.mem_of_getElem? hz)]
structure Src (prog : Program) (w : World) (A : Around) (Hy : List Addr) (it : Addr) (fp : List Addr) (xs : List PyData) (F : List Addr) (P : Nat → Value → Prop) (S : Nat → Heap → Prop) (R : Heap → Prop) : Prop where
  draws : Draws prog w A.in1 it fp xs.length P S
  off : ∀ i h h' W, S i h → Off W h h' → it ∉ W → S i h'
  fld : ∀ i h, S i h → ∃ o fs T, h.get? it = some o ∧ o.data = .fields fs ∧ o.cls = .type T
  roff : ∀ h h' W, R h → Off W h h' → (∀ a ∈ F, a ∉ W) → R h'
  rinert : ∀ h h', R h → Inert Hy h h' → R h'
  alive : ∀ h, R h → ∀ a ∈ F, ∃ o, h.get? a = some o
  item : ∀ i v h x, R h → P i v → xs[i]? = some x → ∃ cs, RD prog w Hy h v x cs ∧ ∀ c ∈ cs, c ∈ F
theorem Stream.zipG {A : Around} {elts : List Expr} {k : Nat} {pos : Pos} {z TI TO i1 i2 : Addr} {fp gp F G : List Addr} {xs ys : List PyData} {P1 P2 : Nat → Value → Prop} {S1 S2 : Nat → Heap → Prop} {R1 R2 : Heap → Prop}
    (X : Src prog w A (TO :: Hz) i1 fp xs F P1 S1 R1) (Y : Src prog w A (TO :: Hz) i2 gp ys G P2 S2 R2) (D : Apart2 z TI TO i1 i2 fp gp) :
    Stream prog w Hz A (.Tuple elts k pos) z (F ++ G) [z, TO, i1, i2] [TO] (zipD xs ys) (fun i h => IsZip h z TI TO .none ∧ IsPair h TI (.ref i1) (.ref i2) ∧ (∃ a b, IsPair h TO a b) ∧ S1 i h ∧ S2 i h ∧ R1 h ∧ R2 h) where
  frame := fun i h h' W st off hF hw => by
    obtain ⟨hz, hTI, ⟨a, b, hTO⟩, s1, s2, r1, r2⟩ := st
    exact ⟨off _ _ hz (.inl (hw z (.head _))), off _ _ hTI (.inr ⟨[.ref i1, .ref i2], 0, rfl⟩), ⟨a, b, off _ _ hTO (.inl (hw TO (by simp)))⟩, X.off _ _ _ W s1 off (hw i1 (by simp)), Y.off _ _ _ W s2 off (hw i2 (by simp)), X.roff _ _ W r1 off fun c hc => hF c (List.mem_append_left _ hc), Y.roff _ _ W r2 off fun c hc => hF c (List.mem_append_right _ hc)⟩
  tups := fun i h st c hc => by
    obtain ⟨hz, hTI, ⟨a, b, hTO⟩, _⟩ := st
    rw [List.mem_singleton.mp hc]; exact pair_tup hTO
  sub := fun c hc => by rw [List.mem_singleton.mp hc]; simp
  inert := fun i h st c hc hn => by
    obtain ⟨hz, hTI, ⟨a, b, hTO⟩, s1, s2, _⟩ := st
    simp only [List.mem_cons, List.not_mem_nil, or_false] at hc hn
    rcases hc with rfl | rfl | rfl | rfl
    · exact ⟨_, _, _, hz, rfl, rfl⟩
    · exact absurd rfl hn
    · exact X.fld _ _ s1
    · exact Y.fld _ _ s2
  alive := fun i h st c hc => by
    obtain ⟨_, _, _, _, _, r1, r2⟩ := st
    exact (List.mem_append.mp hc).elim (X.alive _ r1 c) (Y.alive _ r2 c)
  turn := fun i x s Q E hx st hal hQ => by
    obtain ⟨hz, hTI, ⟨a, b, hTO⟩, s1, s2, r1, r2⟩ := st
    obtain ⟨y1, y2, hy1, hy2, rfl⟩ := zipD_get hx
    refine next_zip X.draws Y.draws D hz hTI hTO s1 s2 (List.getElem?_eq_some_iff.mp hy1).1 (List.getElem?_eq_some_iff.mp hy2).1 fun v1 v2 h' tk p1 p2 g1 g2 g3 g4 g5 hk => ?_
    refine wpAny_letOwnedTupleGo_zip g1 fun h'' hz' hs' => ?_
    have lt : ∀ {c o}, s.heap.get? c = some o → s.heap.objs.size ≠ c := fun e => Nat.ne_of_gt (Heap.lt_size e)
    have kp : ∀ c o, c ∉ [z, TO, i1, i2] → s.heap.get? c = some o → h''.get? c = some o := fun c o hc q => by
      simp only [List.mem_cons, List.not_mem_nil, or_false, not_or] at hc
      exact (hs'.2 c hc.1).trans (hk c o hc.1 hc.2.1 hc.2.2.1 hc.2.2.2 q)
    have K : Inert (TO :: Hz) s.heap h'' := Inert.of (Hz := Hz) (Zs := [TO]) (wr := [z, TO, i1, i2]) (fun c hc hn => by
      simp only [List.mem_cons, List.not_mem_nil, or_false] at hc hn
      rcases hc with rfl | rfl | rfl | rfl
      · exact ⟨_, _, _, hz, rfl, rfl⟩
      · exact absurd rfl hn
      · exact X.fld _ _ s1
      · exact Y.fld _ _ s2) (fun c hc => by rw [List.mem_singleton.mp hc]; exact pair_tup hTO) kp
    have hTn : s.heap.objs.size ∉ TO :: Hz := fun q => by
      rcases List.mem_cons.mp q with q | q
      · exact lt hTO q
      · obtain ⟨o, eo⟩ := hal _ q
        exact lt eo rfl
    have r1' := X.rinert _ _ r1 K
    have r2' := Y.rinert _ _ r2 K
    obtain ⟨cs, e2, e3⟩ := X.item i v1 h'' y1 r1' p1 hy1
    obtain ⟨ds, f2, f3⟩ := Y.item i v2 h'' y2 r2' p2 hy2
    have rT : RD prog w (TO :: Hz) h'' (.ref s.heap.objs.size) (.tuple [y1, y2]) (cs ++ (ds ++ [])) := .tuple (n := 0) ((hs'.2 _ (lt hz)).trans g5) hTn (.cons e2 (.cons f2 .nil))
    refine hQ _ _ h'' tk rT (fun c hc => ?_) ⟨hz', kp TI _ (by simp [D.TIz, D.TITO, D.TIi1, D.TIi2]) hTI, ⟨v1, v2, (hs'.2 TO D.TOz).trans g2⟩, draws_but X.draws g3 hs'.extBut D.fz, draws_but Y.draws g4 hs'.extBut D.gz, r1', r2'⟩ kp
    rw [List.append_nil] at hc
    exact (List.mem_append.mp hc).elim (fun q => List.mem_append_left _ (e3 c q)) fun q => List.mem_append_right _ (f3 c q)
  done := fun s Q E st hQ => by
    obtain ⟨hz, hTI, ⟨a, b, hTO⟩, s1, s2, r1, r2⟩ := st
    rw [zipD_len] at s1 s2
    refine next_zip_end X.draws Y.draws D hz hTI hTO s1 s2 (by lia) fun h' tk hk => hQ h' tk fun c o hc e => ?_
    simp only [List.mem_cons, List.not_mem_nil, or_false, not_or] at hc
    exact hk c o hc.1 hc.2.1 hc.2.2.1 hc.2.2.2 e
  self := fun i s Q E st hQ => wpAny_pyIter_zip st.1 hQ
theorem Src.tuple {A : Around} (hh : A.handled = none) {Hy : List Addr} {it t : Addr} {m : Nat} {F : List Addr} {xs : List PyData} {vs : List Value} (hne : t ≠ it) (hl : vs.length = xs.length) :
    Src prog w A Hy it [it, t] xs F (fun i v => vs[i]? = some v) (fun i h => h.IsTupleIter it t i ∧ h.get? t = some (tupObj vs m)) (fun h => h.get? t = some (tupObj vs m) ∧ t ∉ Hy ∧ RDs prog w Hy h vs xs F) where
  draws := {
    live := fun _ _ st => let ⟨o, ho, _⟩ := st.1; ⟨o, ho⟩
    frame := fun _ _ _ st hk => ⟨by obtain ⟨o, ho, r⟩ := st.1; exact ⟨o, hk it (by simp) o ho, r⟩, hk t (by simp) _ st.2⟩
    item := fun i s Q E hi st hQ => by
      have hx : vs[i]? = some (vs[i]'(by rw [hl]; exact hi)) := List.getElem?_eq_getElem _
      exact nextOf_tuple_item st.1 ⟨_, st.2, rfl, _, rfl⟩ (by rw [List.getElem?_toArray]; exact hx) fun h' hit' hs' => hQ _ h' s.toks hx ⟨hit', (hs'.2 t hne).trans st.2⟩ hs'
    done := fun s Q E st hE => nextOf_tuple_end (A := A.in1) hh st.1 ⟨_, st.2, rfl, _, rfl⟩ (by rw [List.getElem?_toArray, List.getElem?_eq_none_iff, hl]; exact Nat.le_refl _) hE }
  off := fun i h h' W st off hw => by
    obtain ⟨⟨o, ho, r⟩, ht⟩ := st
    exact ⟨⟨o, off _ _ ho (.inl hw), r⟩, off _ _ ht (.inr ⟨_, _, rfl⟩)⟩
  fld := fun i h st => by obtain ⟨⟨o, ho, hc, hd⟩, _⟩ := st; exact ⟨o, _, _, ho, hd, hc⟩
  roff := fun h h' W r off hF => ⟨off _ _ r.1 (.inr ⟨_, _, rfl⟩), r.2.1, r.2.2.off off hF⟩
  rinert := fun h h' r k => ⟨k _ _ r.1 (fun _ q => by cases q) fun hz => absurd hz r.2.1, r.2.1, r.2.2.inert k⟩
  alive := fun h r => r.2.2.alive
  item := fun i v h x r p e => by
    obtain ⟨v', cs, e1, e2, e3⟩ := r.2.2.get e
    rw [e1] at p
    cases p
    exact ⟨cs, e2, e3⟩
theorem Src.ascii {A : Around} (hh : A.handled = none) {Hy : List Addr} {it : Addr} {x : Str} {t : Tok} :
    Src prog w A Hy it [it] (signs x) [] (fun i v => ∃ c u, x.cps[i]? = some c ∧ v = .str ⟨#[c]⟩ u) (fun i h => h.IsStrIter it "str_ascii_iterator" x t i) (fun _ => True) where
  draws := by
    have := Draws.strAscii (prog := prog) (w := w) (A := A.in1) hh it x t
    rw [show (signs x).length = x.cps.size by simp [signs]]
    exact this
  off := fun i h h' W st off hw => by obtain ⟨o, ho, r⟩ := st; exact ⟨o, off _ _ ho (.inl hw), r⟩
  fld := fun i h st => by obtain ⟨o, ho, hc, hd⟩ := st; exact ⟨o, _, _, ho, hd, hc⟩
  roff := fun _ _ _ _ _ _ => trivial
  rinert := fun _ _ _ _ => trivial
  alive := fun _ _ _ q => nomatch q
  item := fun i v h y _ p e => by
    obtain ⟨c, u, e1, rfl⟩ := p
    unfold signs at e
    rw [List.getElem?_map, Array.getElem?_toList, e1] at e
    cases e
    exact ⟨[], .str _ _, fun _ q => nomatch q⟩
end

section
noncomputable abbrev itTup (t : Addr) : Obj := { cls := .type "tuple_iterator", data := .fields #[.ref t, .int 0 0] }
noncomputable abbrev itAsc (x : Str) (t : Tok) : Obj := { cls := .type "str_ascii_iterator", data := .fields #[.str x t, .int 0 0] }
noncomputable abbrev zH2 (h : Heap) (o1 o2 : Obj) : Heap := (h.push o1).push o2
noncomputable abbrev zH3 (h : Heap) (o1 o2 : Obj) : Heap := (zH2 h o1 o2).push { cls := .type "tuple", data := .seq #[.ref h.objs.size, .ref (h.push o1).objs.size] }
noncomputable abbrev zH4 (h : Heap) (o1 o2 : Obj) : Heap := (zH3 h o1 o2).push { cls := .type "tuple", data := .seq #[.none, .none] }
noncomputable abbrev zH5 (h : Heap) (o1 o2 : Obj) : Heap := (zH4 h o1 o2).push { cls := .type "zip", data := .fields #[.none, .bool false, .bool false, .ref (zH2 h o1 o2).objs.size, .ref (zH3 h o1 o2).objs.size] }
theorem meets_tt (t1 t2 : Addr) (xs ys : Array Value) :
    Meets (Builtin.«zip.__new__» ⟨[.type "zip", .ref t1, .ref t2], []⟩) (fun _ R s => s.heap.IsTuple t1 xs ∧ s.heap.IsTuple t2 ys ∧ R (.ok (.ret (.ref (zH4 s.heap (itTup t1) (itTup t2)).objs.size))) { s with heap := zH5 s.heap (itTup t1) (itTup t2) }) :=
  .of_wp fun prog w A R s h => by
    obtain ⟨hp, g, d, tk, os⟩ := s; obtain ⟨hl1, hl2, h⟩ := h
    have hsub := sub_zip
    have hL1 : Heap.IsTuple (Shared.heap ⟨hp, g, d, tk, os⟩) t1 xs := hl1
    have hL2 : Heap.IsTuple (Shared.heap ⟨hp.push (itTup t1), g, d, tk, os⟩) t2 ys := Heap.IsTuple.push hl2 _
    wp_walk using wpAny_pyIter_tuple hL1, wpAny_pyIter_tuple hL2
    exact ⟨_, rfl, h⟩
set_option maxHeartbeats 4000000 in
theorem meets_st (x : Str) (t : Tok) (ha : x.cps.all (· < 128) = true) (t2 : Addr) (ys : Array Value) :
    Meets (Builtin.«zip.__new__» ⟨[.type "zip", .str x t, .ref t2], []⟩) (fun _ R s => s.heap.IsTuple t2 ys ∧ R (.ok (.ret (.ref (zH4 s.heap (itAsc x t) (itTup t2)).objs.size))) { s with heap := zH5 s.heap (itAsc x t) (itTup t2) }) :=
  .of_wp fun prog w A R s h => by
    obtain ⟨hp, g, d, tk, os⟩ := s; obtain ⟨hl2, h⟩ := h
    have hsub := sub_zip
    have hL2 : Heap.IsTuple (Shared.heap ⟨hp.push (itAsc x t), g, d, tk, os⟩) t2 ys := Heap.IsTuple.push hl2 _
    wp_walk using wpAny_pyIter_ascii ha, wpAny_pyIter_tuple hL2
    exact ⟨_, rfl, h⟩
end

section
variable {prog : Program} {w : World} {Hz : List Addr} {hb : Heap} {n : Nat} {sc : Scope}
structure ZipMade (h h' : Heap) (o1 o2 : Obj) : Prop where
  zip : IsZip h' (h.objs.size + 4) (h.objs.size + 2) (h.objs.size + 3) .none
  ti : IsPair h' (h.objs.size + 2) (.ref h.objs.size) (.ref (h.objs.size + 1))
  to : IsPair h' (h.objs.size + 3) .none .none
  i1 : h'.get? h.objs.size = some o1
  i2 : h'.get? (h.objs.size + 1) = some o2
  grow : Grow h h'
theorem zip_made {h : Heap} {o1 o2 : Obj} (f1 : o1.isFreed = false) (f2 : o2.isFreed = false) : (zH4 h o1 o2).objs.size = h.objs.size + 4 ∧ ZipMade h (zH5 h o1 o2) o1 o2 := by
  have z1 : (h.push o1).objs.size = h.objs.size + 1 := Heap.size_push ..
  have z2 : (zH2 h o1 o2).objs.size = h.objs.size + 2 := by rw [Heap.size_push, z1]
  have z3 : (zH3 h o1 o2).objs.size = h.objs.size + 3 := by rw [Heap.size_push, z2]
  have z4 : (zH4 h o1 o2).objs.size = h.objs.size + 4 := by rw [Heap.size_push, z3]
  have g5 : (zH5 h o1 o2).get? (zH4 h o1 o2).objs.size = some _ := Heap.get?_push_size _ rfl
  have g4 : (zH5 h o1 o2).get? (zH3 h o1 o2).objs.size = some _ := Heap.get?_push_of_some _ (Heap.get?_push_size _ rfl)
  have g3 : (zH5 h o1 o2).get? (zH2 h o1 o2).objs.size = some _ := Heap.get?_push_of_some _ (Heap.get?_push_of_some _ (Heap.get?_push_size _ rfl))
  have g2 : (zH5 h o1 o2).get? (h.push o1).objs.size = some o2 := Heap.get?_push_of_some _ (Heap.get?_push_of_some _ (Heap.get?_push_of_some _ (Heap.get?_push_size _ f2)))
  have g1 : (zH5 h o1 o2).get? h.objs.size = some o1 := Heap.get?_push_of_some _ (Heap.get?_push_of_some _ (Heap.get?_push_of_some _ (Heap.get?_push_of_some _ (Heap.get?_push_size _ f1))))
  rw [z2, z3, z4] at g5
  rw [z1, z2] at g3
  rw [z3] at g4
  rw [z1] at g2
  exact ⟨z4, g5, g3, g4, g1, g2, fun c o x => Heap.get?_push_of_some _ (Heap.get?_push_of_some _ (Heap.get?_push_of_some _ (Heap.get?_push_of_some _ (Heap.get?_push_of_some _ x))))⟩
theorem apart2 {N : Nat} {fp gp : List Addr} (hf : ∀ c ∈ fp, c ≤ N) (hg : ∀ c ∈ gp, c < N ∨ c = N + 1) : Apart2 (N + 4) (N + 2) (N + 3) N (N + 1) fp gp := by
  have e : ∀ {a b : Nat}, a ≠ b → @Ne Addr a b := fun h => h
  have f : ∀ c, N < c → c ∉ fp := fun c h q => absurd (hf c q) (Nat.not_le.mpr h)
  refine ⟨e (by lia), e (by lia), e (by lia), e (by lia), e (by lia), e (by lia), e (by lia), e (by lia), e (by lia), e (by lia), f _ (by lia), f _ (by lia), f _ (by lia), fun q => ?_, fun q => ?_, fun q => ?_⟩
  · rcases hg _ q with h | h <;> exact absurd h (by first | exact Nat.not_lt.mpr (by lia) | exact Nat.ne_of_gt (by lia))
  · rcases hg _ q with h | h <;> exact absurd h (by first | exact Nat.not_lt.mpr (by lia) | exact Nat.ne_of_gt (by lia))
  · rcases hg _ q with h | h <;> exact absurd h (by first | exact Nat.lt_irrefl _ | exact Nat.ne_of_lt (by lia))
noncomputable def tuplD : PyData → Option (List PyData)
  | .tuple xs => some xs
  | _ => none
theorem tuplD_some {x : PyData} {xs : List PyData} (h : tuplD x = some xs) : x = .tuple xs := by
  cases x with
  | tuple ys => obtain rfl := Option.some.inj h; rfl
  | _ => exact no h
theorem zip_on {A : Around} {Q : Value → Shared → Prop} {E : Value → Shared → Prop} {s s₂ : Shared} {elts : List Expr} {k : Nat} {tpos : Pos} {fp gp F G : List Addr} {xs ys : List PyData} {P1 P2 : Nat → Value → Prop} {S1 S2 : Nat → Heap → Prop} {R1 R2 : Heap → Prop} {o1 o2 : Obj} {h' : Heap} {fl : Fl} {s₀ : Heap} {W : List Addr}
    (kt : Keeps s s₂) (M : ZipMade s₂.heap h' o1 o2) (X : Src prog w A ((s₂.heap.objs.size + 3) :: Hz) s₂.heap.objs.size fp xs F P1 S1 R1) (Y : Src prog w A ((s₂.heap.objs.size + 3) :: Hz) (s₂.heap.objs.size + 1) gp ys G P2 S2 R2)
    (hf : ∀ c ∈ fp, c ≤ s₂.heap.objs.size) (hg : ∀ c ∈ gp, c < s₂.heap.objs.size ∨ c = s₂.heap.objs.size + 1) (s1 : S1 0 h') (s2 : S2 0 h') (r1 : R1 h') (r2 : R2 h') (hfl : FlOk s₀ W fl (F ++ G)) (w1 : wfs xs = true) (w2 : wfs ys = true) (hl : ys.length ≤ sizeLine)
    (hQ : ∀ I F wr Zs S s', Keeps s s' → Stream prog w Hz A (.Tuple elts k tpos) I F wr Zs (zipD xs ys) S → S 0 s'.heap → FlOk s₀ W fl F → wfs (zipD xs ys) = true → (zipD xs ys).length ≤ sizeLine → (∀ b ∈ wr, s.heap.get? b = none) → Q (.ref I) s') :
    wpAny (model prog w) A (pyIter (.ref (s₂.heap.objs.size + 4))) Q E { s₂ with heap := h' } := by
  refine wpAny_pyIter_zip M.zip ?_
  have fresh : ∀ d, s.heap.get? (s₂.heap.objs.size + d) = none := fun d => by
    cases e : s.heap.get? (s₂.heap.objs.size + d) with
    | none => rfl
    | some o => exact absurd (Heap.lt_size (keeps_grow kt _ _ e)) (Nat.not_lt.mpr (Nat.le_add_right _ _))
  refine hQ _ (F ++ G) _ [s₂.heap.objs.size + 3] _ _ (keeps_trans kt ⟨h', s₂.toks, rfl, M.grow⟩) (Stream.zipG X Y (apart2 hf hg)) ⟨M.zip, M.ti, ⟨_, _, M.to⟩, s1, s2, r1, r2⟩ hfl (wfs_zipD w1 w2) (by rw [zipD_len]; lia) fun c hc => ?_
  simp only [List.mem_cons, List.not_mem_nil, or_false] at hc
  rcases hc with rfl | rfl | rfl | rfl
  · exact fresh 4
  · exact fresh 3
  · exact fresh 0
  · exact fresh 1
theorem lift3 {h : Heap} {N : Nat} (hN : h.objs.size ≤ N) : (∀ {v x cs}, RD prog w Hz h v x cs → RD prog w (N :: Hz) h v x cs) ∧ ∀ {vs xs cs}, RDs prog w Hz h vs xs cs → RDs prog w (N :: Hz) h vs xs cs :=
  hide_both fun c o e q z => by
    rcases List.mem_cons.mp z with z | z
    · have := Heap.lt_size e
      rw [z] at this
      exact absurd this (Nat.not_lt.mpr hN)
    · exact q z
theorem It.zipTT {elts : List Expr} {k : Nat} {tpos : Pos} {e f : Expr} {np pos : Pos} {m m' : Rho → Option V} (hg : GName hb "zip" (.type "zip")) (h : Ev prog w hb n sc e m) (h' : Ev prog w hb n sc f m') (hx : isGlob sc "zip" = true) (he : ∀ env, starEach [e, f] env = [(false, eval e env), (false, eval f env)]) :
    It prog w hb n sc (.Tuple elts k tpos) (.Call (.Name (Str.ofString "zip") np) [e, f] [] pos) (fun ρ => (m ρ).bind fun v => (m' ρ).bind fun v' => (tuplD v.x).bind fun xs => (tuplD v'.x).map fun ys => (zipD xs ys, v.fl.join v'.fl)) := by
  refine ⟨fun _ _ => rfl, ?_⟩
  intro A Hz env s₀ X C ρ O s v Q E hs hA I
  refine bindI fun a ha => bindI fun b hb' => bindI fun xs hxs hm hQ => ?_
  obtain ⟨ys, hys⟩ := mapE (o := tuplD b.x) hm
  show wpAny _ _ (eval (.Name (Str.ofString "zip") np) env >>= fun f => callWith pos f [] (backTo pos (starEach [e, _] env)) []) _ _ s
  refine wpAny_bind (eval_glob I (by rw [hs]; exact hx) hg (callWith_ok (hb := hb) (.inr (.inl ⟨_, rfl⟩)) (by rw [he]; rfl) ?_))
  rw [he]
  refine spliced_cons (h hs hA I ha fun u s₁ k₁ r₁ => spliced_cons (h' hs hA (I.grow k₁) hb' fun u' s₂ k₂ r₂ => spliced_nil ⟨((I.grow k₁).grow k₂).base.grow, ?_⟩))
  obtain ⟨as, ra, ca, oa⟩ := r₁.grow (keeps_grow k₂)
  obtain ⟨bs, rb, cb, ob⟩ := r₂
  rw [tuplD_some hxs] at ra ca
  rw [tuplD_some hys] at rb cb
  have ta := (lift3 (N := s₂.heap.objs.size + 3) (Nat.le_add_right _ _)).1 ra
  have tb := (lift3 (N := s₂.heap.objs.size + 3) (Nat.le_add_right _ _)).1 rb
  cases ta with
  | @tuple t1 vs m1 _ _ a1 az a2 =>
    cases tb with
    | @tuple t2 us m2 _ _ b1 bz b2 =>
      rw [wf_tuple] at ca cb
      obtain ⟨e4, M⟩ := zip_made (h := s₂.heap) (o1 := itTup t1) (o2 := itTup t2) rfl rfl
      refine callType_new F.called_zip (by decide) (F.typeCall_zip_2 _ _) (F.newCall_zip_2 _ _) (fun obj => F.args_object_init_3 obj _ _) F.entry_zip_new (meets_tt t1 t2 vs.toArray us.toArray) ⟨⟨_, a1, rfl, _, rfl⟩, ⟨_, b1, rfl, _, rfl⟩, ?_⟩
      show _ ∧ _
      rw [e4]
      have lt1 := Heap.lt_size a1
      have lt2 := Heap.lt_size b1
      refine ⟨⟨_, M.zip, rfl⟩, zip_on (keeps_trans k₁ k₂) M (Src.tuple (m := m1) hA.handled (Nat.ne_of_lt lt1) a2.length) (Src.tuple (m := m2) hA.handled (Nat.ne_of_lt (Nat.lt_succ_of_lt lt2)) b2.length) (fun c hc => ?_) (fun c hc => ?_)
        ⟨⟨_, M.i1, rfl, rfl⟩, M.grow _ _ a1⟩ ⟨⟨_, M.i2, rfl, rfl⟩, M.grow _ _ b1⟩ ⟨M.grow _ _ a1, az, a2.grow M.grow⟩ ⟨M.grow _ _ b1, bz, b2.grow M.grow⟩ (FlOk.append oa.join_l ob.join_r) ca.2 cb.2 cb.1 hQ⟩
      · simp only [List.mem_cons, List.not_mem_nil, or_false] at hc
        rcases hc with rfl | rfl
        · exact Nat.le_refl _
        · exact Nat.le_of_lt lt1
      · simp only [List.mem_cons, List.not_mem_nil, or_false] at hc
        rcases hc with rfl | rfl
        · exact .inr rfl
        · exact .inl lt2
theorem It.zipST {elts : List Expr} {k : Nat} {tpos : Pos} {e f : Expr} {np pos : Pos} {m m' : Rho → Option V} (hg : GName hb "zip" (.type "zip")) (h : Ev prog w hb n sc e m) (h' : Ev prog w hb n sc f m') (hx : isGlob sc "zip" = true) (he : ∀ env, starEach [e, f] env = [(false, eval e env), (false, eval f env)]) :
    It prog w hb n sc (.Tuple elts k tpos) (.Call (.Name (Str.ofString "zip") np) [e, f] [] pos) (fun ρ => (m ρ).bind fun v => (m' ρ).bind fun v' => (keyOf v.x).bind fun x => if x.cps.all (· < 128) = true then (tuplD v'.x).map fun ys => (zipD (signs x) ys, v'.fl) else none) := by
  refine ⟨fun _ _ => rfl, ?_⟩
  intro A Hz env s₀ X C ρ O s v Q E hs hA I
  refine bindI fun a ha => bindI fun b hb' => bindI fun x hkx => ifI fun hasc hm hQ => ?_
  obtain ⟨ys, hys⟩ := mapE (o := tuplD b.x) hm
  show wpAny _ _ (eval (.Name (Str.ofString "zip") np) env >>= fun f => callWith pos f [] (backTo pos (starEach [e, _] env)) []) _ _ s
  refine wpAny_bind (eval_glob I (by rw [hs]; exact hx) hg (callWith_ok (hb := hb) (.inr (.inl ⟨_, rfl⟩)) (by rw [he]; rfl) ?_))
  rw [he]
  refine spliced_cons (h hs hA I ha fun u s₁ k₁ r₁ => spliced_cons (h' hs hA (I.grow k₁) hb' fun u' s₂ k₂ r₂ => spliced_nil ⟨((I.grow k₁).grow k₂).base.grow, ?_⟩))
  obtain ⟨as, ra, ca, oa⟩ := r₁
  obtain ⟨bs, rb, cb, ob⟩ := r₂
  rw [keyOf_some hkx] at ra ca
  rw [tuplD_some hys] at rb cb
  obtain ⟨t, rfl⟩ := ra.str_inv
  have tb := (lift3 (N := s₂.heap.objs.size + 3) (Nat.le_add_right _ _)).1 rb
  cases tb with
  | @tuple t2 us m2 _ _ b1 bz b2 =>
    rw [wf_tuple] at cb
    obtain ⟨e4, M⟩ := zip_made (h := s₂.heap) (o1 := itAsc x t) (o2 := itTup t2) rfl rfl
    refine callType_new F.called_zip (by decide) (F.typeCall_zip_2 _ _) (F.newCall_zip_2 _ _) (fun obj => F.args_object_init_3 obj _ _) F.entry_zip_new (meets_st x t hasc t2 us.toArray) ⟨⟨_, b1, rfl, _, rfl⟩, ?_⟩
    show _ ∧ _
    rw [e4]
    have lt2 := Heap.lt_size b1
    refine ⟨⟨_, M.zip, rfl⟩, zip_on (F := []) (keeps_trans k₁ k₂) M (Src.ascii (x := x) (t := t) hA.handled) (Src.tuple (m := m2) hA.handled (Nat.ne_of_lt (Nat.lt_succ_of_lt lt2)) b2.length) (fun c hc => ?_) (fun c hc => ?_)
      ⟨_, M.i1, rfl, rfl⟩ ⟨⟨_, M.i2, rfl, rfl⟩, M.grow _ _ b1⟩ trivial ⟨M.grow _ _ b1, bz, b2.grow M.grow⟩ ob (wfs_signs ca) cb.2 cb.1 hQ⟩
    · rw [List.mem_singleton.mp hc]; exact Nat.le_refl _
    · simp only [List.mem_cons, List.not_mem_nil, or_false] at hc
      rcases hc with rfl | rfl
      · exact .inr rfl
      · exact .inl lt2
noncomputable def Loose (h h' : Heap) : Prop := ∀ b o, h.get? b = some o → ∃ o', h'.get? b = some o' ∧ o'.cls = o.cls ∧ o'.dict = o.dict ∧ ((∀ vs, o.data ≠ .fields vs) → o'.data = o.data)
theorem Loose.refl (h : Heap) : Loose h h := fun _ o e => ⟨o, e, rfl, rfl, fun _ => rfl⟩
theorem Loose.of_grow {h h' : Heap} (k : Grow h h') : Loose h h' := fun _ o e => ⟨o, k _ _ e, rfl, rfl, fun _ => rfl⟩
theorem Loose.trans {h₁ h₂ h₃ : Heap} (x : Loose h₁ h₂) (y : Loose h₂ h₃) : Loose h₁ h₃ := fun b o e => by
  obtain ⟨o₂, e₂, c₂, d₂, q₂⟩ := x b o e
  obtain ⟨o₃, e₃, c₃, d₃, q₃⟩ := y b o₂ e₂
  exact ⟨o₃, e₃, c₃.trans c₂, d₃.trans d₂, fun hn => (q₃ fun vs => (q₂ hn) ▸ hn vs).trans (q₂ hn)⟩
theorem Loose.slots {S : List Addr} {h h' : Heap} (x : Heap.SlotsOnly S h h') : Loose h h' := fun b o e => by
  obtain ⟨sl, q⟩ := x.2.2 b o e
  exact ⟨_, q, rfl, rfl, fun _ => rfl⟩
theorem Loose.field {h : Heap} {a : Addr} {o : Obj} {vs : Array Value} (e : h.get? a = some o) (hd : o.data = .fields vs) (f : Array Value → Array Value) : Loose h (h.update a (Obj.mapFields f)) := fun b o' e' => by
  by_cases q : b = a
  · subst q
    rw [e] at e'; cases e'
    refine ⟨_, Heap.get?_update_self (Obj.mapFields f) e (Obj.isFreed_of_fields (Obj.data_mapFields hd f)), Obj.cls_mapFields _ _, ?_, fun hn => absurd hd (hn vs)⟩
    obtain ⟨c, d, dt, sl⟩ := o
    cases dt <;> rfl
  · exact ⟨o', (Heap.get?_update_other h _ (Ne.symm q)).trans e', rfl, rfl, fun _ => rfl⟩
theorem Loose.ns {h h' : Heap} (k : Loose h h') {a : Addr} {m : Str → Option Value} (x : h.Ns a m) : h'.Ns a m := by
  obtain ⟨o, es, ep, e, d, r⟩ := x
  obtain ⟨o', e', _, _, q⟩ := k a o e
  exact ⟨o', es, ep, e', (q fun vs hv => by rw [d] at hv; cases hv).trans d, r⟩
theorem Loose.frames {h h' base : Heap} (k : Loose h h') {l : List Env} (x : h.FunFrames base l) : h'.FunFrames base l :=
  x.of_keeps fun b o e hn => let ⟨o', e', _, _, q⟩ := k b o e; ⟨o', e', q hn⟩
inductive AtV : Value → PyData → Prop
  | none : AtV .none .none
  | int (i : Int) (t : Tok) : AtV (.int i t) (.int i)
inductive Head (base h : Heap) (e : Addr) : Option Value → Prop
  | none : Head base h e (some .none)
  | at (T : Addr) (oT : Obj) (ts : Array Value) (h1 : base.get? T = none) (h2 : T ≠ e) (h3 : h.get? T = some oT) (h4 : oT.data = .fields ts) (h5 : ts[3]? = some .none) : Head base h e (some (.ref T))
inductive Own1 (h : Heap) (x : PyData) : Option Addr → Prop
  | mk (d : Addr) (m : Str → Option Value) (u : Value) (h1 : h.Ns d m) (h2 : m (Str.ofString "at") = some u) (h3 : AtV u x) : Own1 h x (some d)
theorem Own1.loose {h h' : Heap} {x : PyData} {d : Option Addr} (a : Own1 h x d) (k : Loose h h') : Own1 h' x d := by
  induction a with
  | mk d m u h1 h2 h3 => exact .mk d m u (k.ns h1) h2 h3
inductive ExcO (base h : Heap) (e : Addr) (c : Value) (x : PyData) : Prop
  | mk (oe : Obj) (vs : Array Value) (h1 : h.get? e = some oe) (h2 : oe.cls = c) (h3 : oe.data = .fields vs) (h4 : Head base h e vs[1]?) (h5 : Own1 h x oe.dict) : ExcO base h e c x
structure Raised (base : Heap) (l : List Env) (e : Addr) (c : Value) (x : PyData) (h : Heap) : Prop where
  new : base.get? e = none
  stays : base.StaysIn h
  fr : h.FunFrames base l
  obj : ExcO base h e c x
section
variable {M : Model} {A : Around} {E : Value → Shared → Prop} {s : Shared} {base : Heap} {env : Env} {outer : List Env} {L e : Addr} {c : Value} {x : PyData}
theorem new_entry {oe : Obj} {vs : Array Value} {hd : Value} {b : Bool} {Q : Unit → Shared → Prop} (hfr : A.frames = some (env :: outer)) (hf : env.frame = some L) (new : base.get? e = none) (stays : base.StaysIn s.heap)
    (fr : s.heap.FunFrames base (env :: outer)) (he : s.heap.get? e = some oe) (hv : oe.data = .fields vs) (hs : 1 < vs.size) (ho : Own1 s.heap x oe.dict)
    (h : ∀ h', Raised base (env :: outer) e oe.cls x h' → Loose s.heap h' → Q () { s with heap := h' }) :
    wpAny M A (do let a ← frameOf env; let pl ← entryPlaceOf L b; let t ← EntryCells.newEntry hd a .none (rawInt L) .none pl; setField (.ref e) 1 t) (fun _ s' => wpAny M A (setFlight (.ref e) none) Q E s') E s := by
  have out : ∀ b' o, base.get? b' = some o → b' ∉ (env :: outer).filterMap (·.frame) := fun b' o q hm => by rw [(fr.mem hm).1] at q; cases q
  have ene : e ∉ (env :: outer).filterMap (·.frame) := fun hm => by
    obtain ⟨_, o, ho, hn⟩ := fr.mem hm
    rw [he] at ho; cases ho; exact hn vs hv
  refine wpAny_bind (wpAny_frameOf_fun hfr fr hf fun h₁ k₁ => ?_)
  refine wpAny_bind (wpAny_entryPlaceOf fun pl hpl => ?_)
  unfold EntryCells.newEntry newFields
  refine wpAny_bind (wpAny_newObj_type ?_ (hpl.sizeOk5 _ _ _ _ _))
  generalize hcs : ([hd, .ref L, .none, rawInt L, .none] ++ (if pl.isEmpty then List.replicate 6 Value.none else pl)).toArray = cs
  have hcz : 3 < cs.size := by rw [← hcs]; simp only [List.size_toArray, List.length_append, List.length_cons, List.length_nil]; omega
  have e₁ : h₁.get? e = some oe := (k₁.2.1 e ene).trans he
  have g₂ : Grow h₁ (h₁.push { cls := .type "traceback", dict := none, data := .fields cs }) := fun _ _ q => Heap.get?_push_of_some _ q
  have t₂ : (h₁.push { cls := .type "traceback", dict := none, data := .fields cs }).get? h₁.objs.size = some { cls := .type "traceback", dict := none, data := .fields cs } := Heap.get?_push_size h₁ rfl
  have te : h₁.objs.size ≠ e := Nat.ne_of_gt (Heap.lt_size e₁)
  refine wpAny_setField (g₂ _ _ e₁) hv hs ?_
  have l₃ := Loose.field (g₂ _ _ e₁) hv (·.setIfInBounds 1 (Value.ref h₁.objs.size))
  have d₃ := Obj.data_mapFields hv (·.setIfInBounds 1 (Value.ref h₁.objs.size))
  have e₃ := Heap.get?_update_self (Obj.mapFields (·.setIfInBounds 1 (Value.ref h₁.objs.size))) (g₂ _ _ e₁) (Obj.isFreed_of_fields d₃)
  have t₃ := (Heap.get?_update_other _ (Obj.mapFields (·.setIfInBounds 1 (Value.ref h₁.objs.size))) (Ne.symm te)).trans t₂
  unfold setFlight
  refine wpAny_bind (wpAny_field e₃ d₃ (x := .ref h₁.objs.size) (by simp [hs]) ?_)
  rw [if_pos (show (Value.ref h₁.objs.size != Value.none) = true from by simp)]
  refine wpAny_setField t₃ rfl hcz ?_
  have l₄ := Loose.field t₃ rfl (·.setIfInBounds 3 ((none : Option Addr).elim Value.none fun f => rawInt f))
  have lo := ((Loose.slots k₁).trans (Loose.of_grow g₂)).trans (l₃.trans l₄)
  have fresh : base.get? h₁.objs.size = none := by
    cases q : base.get? h₁.objs.size with
    | none => rfl
    | some o => have := Heap.lt_size ((k₁.2.1 _ (out _ o q)).trans (stays _ o q)); exact absurd this (Nat.lt_irrefl _)
  have d₄ : ∀ o : Obj, (Obj.mapFields (·.setIfInBounds 1 (Value.ref h₁.objs.size)) o).dict = o.dict := fun o => by
    obtain ⟨c, d, dt, sl⟩ := o
    cases dt <;> rfl
  refine h _ ⟨new, fun b' o q => ?_, lo.frames fr, ExcO.mk _ _ ((Heap.get?_update_other _ _ te).trans e₃) (Obj.cls_mapFields _ _) d₃ ?_ (by rw [d₄]; exact ho.loose lo)⟩ lo
  · rw [Heap.get?_update_other _ _ (fun z => by rw [← z, fresh] at q; cases q), Heap.get?_update_other _ _ (fun z => by rw [← z, new] at q; cases q)]
    exact g₂ _ _ ((k₁.2.1 _ (out _ o q)).trans (stays _ o q))
  · rw [show (vs.setIfInBounds 1 (Value.ref h₁.objs.size))[1]? = some (Value.ref h₁.objs.size) from by simp [hs]]
    exact .at _ _ _ fresh te (Heap.get?_update_self _ t₃ (Obj.isFreed_of_fields (Obj.data_mapFields rfl _))) (Obj.data_mapFields rfl _) (by simp [hcz])
theorem note {Q : Unit → Shared → Prop} (hfr : A.frames = some (env :: outer)) (hf : env.frame = some L) (R : Raised base (env :: outer) e c x s.heap)
    (h : ∀ h', Raised base (env :: outer) e c x h' → Loose s.heap h' → Q () { s with heap := h' }) :
    wpAny M A (noteFrame (.ref e) env) (fun _ s' => wpAny M A (setFlight (.ref e) none) Q E s') E s := by
  obtain ⟨new, stays, fr, oe, vs, he, hc, hv, hh, ho⟩ := R
  subst hc
  unfold noteFrame
  simp only [hf]
  generalize hq : vs[1]? = q at hh
  have hs : 1 < vs.size := by
    cases hh <;> exact (Array.getElem?_eq_some_iff.mp hq).1
  cases hh with
  | none =>
    refine wpAny_bind (wpAny_field he hv hq ?_)
    rw [if_neg (by decide)]
    exact new_entry hfr hf new stays fr he hv hs ho h
  | «at» T oT ts h1 h2 h3 h4 h5 =>
    refine wpAny_bind (wpAny_field he hv hq ?_)
    rw [if_pos (show (Value.ref T != Value.none) = true from by simp)]
    refine wpAny_bind (wpAny_field h3 h4 h5 ?_)
    rw [if_neg (show ¬ ((Value.none == rawInt L) = true) from by simp [rawInt])]
    refine wpAny_bind (wpAny_setField h3 h4 (Array.getElem?_eq_some_iff.mp h5).1 ?_)
    have lo := Loose.field h3 h4 (·.setIfInBounds 3 Value.none)
    refine new_entry hfr hf new (fun b o q => (Heap.get?_update_other _ _ fun z => by rw [← z, h1] at q; cases q).trans (stays b o q)) (lo.frames fr) ((Heap.get?_update_other _ _ h2).trans he) hv hs (ho.loose lo)
      fun h' R' k => h h' R' (lo.trans k)
theorem Raised.tail {h : Heap} (R : Raised base (env :: outer) e c x h) : Raised base outer e c x h := ⟨R.new, R.stays, R.fr.2.2, R.obj⟩
theorem leave {Q : Unit → Shared → Prop} (hfr : A.frames = some (env :: outer)) (hf : env.frame = some L) (R : Raised base (env :: outer) e c x s.heap)
    (h : ∀ h', Raised base outer e c x h' → Loose s.heap h' → Q () { s with heap := h' }) : wpAny M A (leaving env (.ref e)) Q E s :=
  wpAny_bind (note hfr hf R fun h' R' k => h h' R'.tail k)
end
inductive OutX where
  | out (o : Out)
  | exc (c : Addr) (x : PyData)
inductive Fly (base : Heap) (l : List Env) (c : Addr) (x : PyData) (s₀ : Shared) (e : Addr) : Shared → Prop
  | mk (h : Heap) (tk : Nat) (R : Raised base l e (.ref c) x h) (k : Loose s₀.heap h) : Fly base l c x s₀ e { s₀ with heap := h, toks := tk }
structure Up (base : Heap) (s₀ : Shared) (A : Around) (env : Env) (outer : List Env) : Prop where
  frs : A.frames = some (env :: outer)
  own : env.frame = some env.locals
  stays : base.StaysIn s₀.heap
  fr : s₀.heap.FunFrames base outer
section
variable (prog w hb)
noncomputable def EndsX (Hz : List Addr) (s₀ : Shared) (env : Env) (C : List Addr) (O : List (String × List Addr)) (base : Heap) (outer : List Env) (s : Shared) (r : OutX) (Q : Flow → Shared → Prop) (E : Value → Shared → Prop) : Prop :=
  match r with
  | .out o => Ends prog w Hz hb s₀ [] env C O s o Q
  | .exc c x => ∀ e s', Fly base (env :: outer) c x s₀ e s' → E (.ref e) s'
noncomputable def S1X (n : Nat) (sc : Scope) (st : Stmt) (m : Rho → Option OutX) : Prop :=
  ∀ ⦃A : Around⦄ ⦃Hz : List Addr⦄ ⦃env : Env⦄ ⦃s₀ : Shared⦄ ⦃C : List Addr⦄ ⦃ρ : Rho⦄ ⦃O : List (String × List Addr)⦄ ⦃s : Shared⦄ ⦃r : OutX⦄ ⦃base : Heap⦄ ⦃outer : List Env⦄ ⦃Q : Flow → Shared → Prop⦄ ⦃E : Value → Shared → Prop⦄,
    env.scope = sc → RoomF A n → Up base s₀ A env outer → PassesOwn (model prog w) A env E → InS prog w Hz hb s₀ [] env C ρ O s → m ρ = some r → EndsX prog w hb Hz s₀ env C O base outer s r Q E → wpAny (model prog w) A (exec st env) Q E s
noncomputable def StX (n : Nat) (sc : Scope) (ss : List Stmt) (m : Rho → Option OutX) : Prop :=
  ∀ ⦃A : Around⦄ ⦃Hz : List Addr⦄ ⦃env : Env⦄ ⦃s₀ : Shared⦄ ⦃C : List Addr⦄ ⦃ρ : Rho⦄ ⦃O : List (String × List Addr)⦄ ⦃s : Shared⦄ ⦃r : OutX⦄ ⦃base : Heap⦄ ⦃outer : List Env⦄ ⦃Q : Flow → Shared → Prop⦄ ⦃E : Value → Shared → Prop⦄,
    env.scope = sc → RoomF A n → Up base s₀ A env outer → PassesOwn (model prog w) A env E → InS prog w Hz hb s₀ [] env C ρ O s → m ρ = some r → EndsX prog w hb Hz s₀ env C O base outer s r Q E → wpAny (model prog w) A (execs ss env) Q E s
noncomputable def FnX (n : Nat) (f : Addr) (m : List PyData → Option (PyData ⊕ Addr × PyData)) : Prop :=
  ∀ ⦃A : Around⦄ ⦃Hz : List Addr⦄ ⦃s : Shared⦄ ⦃us : List Value⦄ ⦃xs : List PyData⦄ ⦃as : List Addr⦄ ⦃y : PyData ⊕ Addr × PyData⦄ ⦃base : Heap⦄ ⦃l : List Env⦄ ⦃Q : Value → Shared → Prop⦄ ⦃E : Value → Shared → Prop⦄,
    Room A n → A.frames = some l → base.StaysIn s.heap → s.heap.FunFrames base l → Base prog Hz hb s.heap → RDs prog w Hz s.heap us xs as → wfs xs = true → m xs = some y →
    (match y with
      | .inl y => ∀ u as s', Keeps s s' → RD prog w Hz s'.heap u y as → wf y = true → (∀ a ∈ as, s.heap.get? a = none) → Q u s'
      | .inr z => ∀ e s', Fly base l z.1 z.2 s e s' → E (.ref e) s') → wpAny (model prog w) A (call (.ref f) us) Q E s
end
theorem S1X.of {st : Stmt} {m : Rho → Option Out} (h : S1 prog w hb n sc st m) : S1X prog w hb n sc st (fun ρ => (m ρ).map .out) := by
  intro A Hz env s₀ C ρ O s r base outer Q E hs hA U P I hm hQ
  obtain ⟨o, ho, e⟩ := Option.map_eq_some_iff.mp hm
  subst e
  exact h hs hA I ho hQ
theorem StX.of {ss : List Stmt} {m : Rho → Option Out} (h : St prog w hb n sc ss m) : StX prog w hb n sc ss (fun ρ => (m ρ).map .out) := by
  intro A Hz env s₀ C ρ O s r base outer Q E hs hA U P I hm hQ
  obtain ⟨o, ho, e⟩ := Option.map_eq_some_iff.mp hm
  subst e
  exact h hs hA I ho hQ
noncomputable def thenX (m : Rho → Option OutX) : OutX → Option OutX
  | .out (.next ρ) => m ρ
  | o => some o
theorem EndsX.trans {s₀ : Shared} {env : Env} {C : List Addr} {O O' : List (String × List Addr)} {base : Heap} {outer : List Env} {s s' : Shared} {r : OutX} {Q : Flow → Shared → Prop} {E : Value → Shared → Prop}
    (k : Step s.heap s'.heap (WW env C O) (WW env C O')) (h : EndsX prog w hb Hz s₀ env C O base outer s r Q E) : EndsX prog w hb Hz s₀ env C O' base outer s' r Q E := by
  induction r with
  | out o => exact Ends.trans k h
  | exc c x => exact h
theorem StX.cons {st : Stmt} {rest : List Stmt} {m m' : Rho → Option OutX} (h : S1X prog w hb n sc st m) (h' : StX prog w hb n sc rest m') : StX prog w hb n sc (st :: rest) (fun ρ => (m ρ).bind (thenX m')) := by
  intro A Hz env s₀ C ρ O s r base outer Q E hs hA U P I hm hQ
  obtain ⟨o, ho, hm⟩ := bindE hm
  refine wpAny_execs_cons (h hs hA U P I ho ?_)
  induction o with
  | out o =>
    induction o with
    | next ρ' => exact fun O s' I' t => h' hs hA U P I' hm (hQ.trans t)
    | brk ρ' => (have e := si hm; subst e; clear hm); exact hQ
    | cont ρ' => (have e := si hm; subst e; clear hm); exact hQ
    | ret x => (have e := si hm; subst e; clear hm); exact hQ
    | retT x ρ' => (have e := si hm; subst e; clear hm); exact hQ
  | exc c x => (have e := si hm; subst e; clear hm); exact hQ
theorem S1X.if {t : Expr} {b o : List Stmt} {pos : Pos} {mt : Rho → Option Bool} {mb mo : Rho → Option OutX} (ht : Tr prog w hb n sc t mt) (h1 : StX prog w hb n sc b mb) (h2 : StX prog w hb n sc o mo) :
    S1X prog w hb n sc (.If t b o pos) (fun ρ => (mt ρ).bind fun c => if c then mb ρ else mo ρ) := by
  intro A Hz env s₀ C ρ O s r base outer Q E hs hA U P I hm hQ
  obtain ⟨c, hc, hm⟩ := bindE hm
  refine wpAny_If (ht hs hA I.toInF hc fun s₁ k₁ => ?_)
  induction c with
  | true => exact h1 hs hA U P (I.grow k₁) hm (hQ.trans (Step.of_grow (keeps_grow k₁)))
  | false => exact h2 hs hA U P (I.grow k₁) hm (hQ.trans (Step.of_grow (keeps_grow k₁)))
noncomputable def outX : OutX → Option (PyData ⊕ Addr × PyData)
  | .out o => (outOf o).map .inl
  | .exc c x => some (.inr (c, x))
noncomputable def fnX (ps : List String) (m : Rho → Option OutX) (xs : List PyData) : Option (PyData ⊕ Addr × PyData) := if xs.length = ps.length then (m (rho0 ps xs)).bind outX else none
theorem FnX.def {f : Addr} {ps : List String} {body : List Stmt} {m : Rho → Option OutX} (D : DefOk hb f sc ps body) (h : StX prog w hb n sc body m) : FnX prog w hb (n + 1) f (fnX ps m) := by
  intro A Hz s us xs as y base l Q E hA hl stay fr b rd hw hm hQ
  obtain ⟨fo, fd, args, ho, hd, hp, hnm, hbd, hsc, hcl, hdf, hgl, hbu, hcr⟩ := D.there
  unfold fnX at hm
  split at hm
  · rename_i hlen
    obtain ⟨o, ho', hy⟩ := bindE hm
    have hps : args.length = ps.length := by simpa using congrArg List.length hnm
    have hul : args.length = us.length := by rw [hps, rd.length, hlen]
    have hnames : (args.map (·.arg)).Nodup := by
      rw [hnm]
      rw [List.Nodup, List.pairwise_map]
      exact D.names.imp fun h e => h (ofString_inj e)
    refine wpAny_call (codeAny_call_function (fd := fd) (body := body) (by have := hA.depth; lia) (b.grow _ _ ho) hd (by rw [hsc]; exact D.co) (by rw [hsc]; exact D.gen) hbd (hcr.keeps b.grow) ?_)
    rw [bind_plain hp hdf hul hnames, hnm, hsc, hgl, hcl, hbu]
    refine wpAny_pure (wpAny_newFunctionEnv_cells D.kind (fun z hz => ?_) fun env he s' x => ?_)
    · have := (List.of_mem_zip hz).1
      obtain ⟨p, hp', e⟩ := List.mem_map.mp this
      rw [← e]
      refine (isVar_kinds (D.vars p hp')).imp id fun q => ⟨q, cells_some _ _ _ (.inl q)⟩
    · have e1 : env.scope = sc := by rw [he]; rfl
      have e2 : env.globals = mainGlobals := by rw [he]; rfl
      have e3 : env.builtins = builtinsNs := by rw [he]; rfl
      have e4 : env.cells = cellsFrom (env.locals + 1) sc.names [] := by rw [he]; rfl
      have I := InS.start (w := w) b e1 D.kind e2 e3 e4 D.once D.names rd hw x
      refine ⟨I.base.nolimit, codeAny_func ?_⟩
      have pe : PlainEnv env := ⟨by rw [e1]; exact D.gen, by rw [e1]; exact D.co, e3, e2⟩
      refine h e1 (hA.deeper pe) ⟨Around.frames_deeper hl, by rw [he]; rfl, stay, fr⟩ PassesOwn.leaving I ho' ?_
      have keeps : ∀ {ρ : Rho} {O' : List (String × List Addr)} {s'' : Shared}, InS prog w Hz hb s [] env (env.cells.map (·.2)) ρ O' s'' → Keeps s s'' := by
        intro ρ O' s'' J
        obtain ⟨h', tk, e⟩ := J.same
        exact ⟨h', tk, e, fun b o eb => by have := J.keep b o eb (by simp); rw [e] at this; exact this⟩
      induction o with
      | exc c x =>
        (have e := si hy; subst e; clear hy)
        rintro e s'' ⟨h', tk, R, k⟩
        exact leave (Around.frames_deeper hl) (by rw [he]; rfl) R fun h₂ R₂ k₂ => hQ e _ ⟨h₂, tk, R₂, k.trans k₂⟩
      | out o =>
        obtain ⟨v, hz, e⟩ := Option.map_eq_some_iff.mp hy
        clear hy
        subst e
        induction o with
        | next ρ =>
          (have e := si hz; subst e; clear hz)
          intro O' s'' J _
          exact hQ .none [] s'' (keeps J) .none rfl fun _ q => nomatch q
        | ret z =>
          (have e := si hz; subst e; clear hz)
          intro u as' O' ρ s'' J ru cu fr
          exact hQ u as' s'' (keeps J) ru cu fun a ha => (fr a ha).elim (fun q => nomatch q) id
        | brk ρ => exact no hz
        | cont ρ => exact no hz
        | retT z ρ => exact no hz
  · exact no hm
noncomputable def forX (bind : V → Rho → Option Rho) (body : Rho → Option OutX) (f : Fl) : List PyData → Rho → Option OutX
  | [], ρ => some (.out (.next ρ))
  | x :: xs, ρ => (bind (V.fix x f) ρ).bind fun ρ₁ => (body ρ₁).bind fun o => match o with
    | .out (.next ρ₂) => forX bind body f xs ρ₂
    | .out (.cont ρ₂) => forX bind body f xs ρ₂
    | .out (.brk ρ₂) => some (.out (.next ρ₂))
    | .out (.ret y) => some (.out (.ret y))
    | .out (.retT y ρ) => some (.out (.retT y ρ))
    | .exc c x => some (.exc c x)
variable (prog w) in
inductive ForX (Hz : List Addr) (hb : Heap) (s₀ : Shared) (env : Env) (C W wr : List Addr) (h₁ : Heap) (S : Nat → Heap → Prop) (bind : V → Rho → Option Rho) (mb : Rho → Option OutX) (f : Fl) (xs : List PyData) (r : OutX) : Nat → Shared → Prop
  | mk (i : Nat) (ρ₂ : Rho) (O₂ : List (String × List Addr)) (s₂ : Shared) (h1 : i ≤ xs.length) (h2 : InS prog w Hz hb s₀ [] env C ρ₂ O₂ s₂) (h3 : ∀ b o, h₁.get? b = some o → b ∉ W → b ∉ wr → s₂.heap.get? b = some o) (h4 : ∀ a ∈ WW env C O₂, a ∈ W ∨ h₁.get? a = none) (h5 : S i s₂.heap) (h6 : forX bind mb f (xs.drop i) ρ₂ = some r) : ForX Hz hb s₀ env C W wr h₁ S bind mb f xs r (xs.length + 1 - i) s₂
theorem S1X.for {tgt e : Expr} {body : List Stmt} {pos : Pos} {m : Rho → Option (List PyData × Fl)} {bind : V → Rho → Option Rho} {mb : Rho → Option OutX} (hi : It prog w hb n sc tgt e m) (ht : Tg prog w hb sc tgt bind) (hbd : StX prog w hb n sc body mb) :
    S1X prog w hb n sc (.For tgt e body [] pos) (fun ρ => (m ρ).bind fun v => if v.2 = .t then none else forX bind mb v.2 v.1 ρ) := by
  intro A Hz env s₀ C ρ O s r base outer Q E hs hA U P I hm hQ
  obtain ⟨z0, hv, hm⟩ := bindE hm
  obtain ⟨xs, f⟩ := z0
  dsimp only at hm
  split at hm
  · exact no hm
  rename_i hf
  refine wpAny_For (hi.2 hs hA I.toInF hv fun J F wr Zs S s₁ k₁ T hS hF hwf hlen hwr => ?_) (hi.1 env)
  have I₁ := I.growZ k₁ (fun z hz => hwr z (T.sub z hz)) (T.tups 0 _ hS)
  have hFW : ∀ a ∈ F, a ∉ WW env C O := by
    induction f with
    | d => exact fun a ha => (hF a ha).2
    | s => exact hF
    | t => exact absurd rfl hf
  have wrOk : ∀ b ∈ wr, hb.get? b = none ∧ s₀.heap.get? b = none ∧ b ∉ WW env C O := by
    intro b hb'
    have h0 := hwr b hb'
    obtain ⟨f1, f2⟩ := I.toInF.fresh h0
    refine ⟨?_, f1, f2⟩
    cases e : hb.get? b with
    | none => rfl
    | some o => rw [I.base.grow _ _ e] at h0; cases h0
  have notHz : ∀ b ∈ wr, b ∉ Hz := fun b hb' hz => by
    obtain ⟨_, o, e, _⟩ := I.base.hide b hz
    rw [hwr b hb'] at e; exact no e
  have step : ∀ {O₂ : List (String × List Addr)} {h₂ : Heap}, (∀ b o, s₁.heap.get? b = some o → b ∉ WW env C O → b ∉ wr → h₂.get? b = some o) → (∀ a ∈ WW env C O₂, a ∈ WW env C O ∨ s₁.heap.get? a = none) → Step s.heap h₂ (WW env C O) (WW env C O₂) := by
    intro O₂ h₂ K N
    refine ⟨fun b o e hw => K b o (keeps_grow k₁ _ _ e) hw fun hq => ?_, fun a ha => (N a ha).imp id fun q => ?_⟩
    · rw [hwr b hq] at e; exact no e
    · cases e : s.heap.get? a with
      | none => rfl
      | some o => rw [keeps_grow k₁ _ _ e] at q; cases q
  refine codeAny_forLoop_any (ForX prog w (Zs ++ Hz) hb s₀ env C (WW env C O) wr s₁.heap S bind mb f xs r) ?_ (xs.length + 1) (ForX.mk 0 ρ O s₁ (Nat.zero_le _) I₁ (fun _ _ e _ _ => e) (fun _ h => .inl h) hS hm)
  rintro k s₂ ⟨i, ρ₂, O₂, _, hil, I₂, K₂, N₂, hS₂, hm₂⟩
  have wr₂ : ∀ b ∈ wr, b ∉ WW env C O₂ := by
    intro b hb' hq
    rcases N₂ b hq with q | q
    · exact (wrOk b hb').2.2 q
    · obtain ⟨o, e⟩ := T.there hS hb'; rw [e] at q; cases q
  have F₂ : ∀ a ∈ F, a ∉ WW env C O₂ := by
    intro a ha hq
    rcases N₂ a hq with q | q
    · exact hFW a ha q
    · obtain ⟨o, e⟩ := T.alive 0 _ hS a ha; rw [e] at q; cases q
  have out₂ : ∀ b o, s₁.heap.get? b = some o → b ∉ WW env C O → b ∉ WW env C O₂ := fun b o e hw hq => (N₂ b hq).elim hw fun q => by rw [e] at q; cases q
  by_cases hlt : i < xs.length
  · have hx : xs[i]? = some xs[i] := List.getElem?_eq_getElem hlt
    rw [List.drop_eq_getElem_cons hlt] at hm₂
    simp only [forX] at hm₂
    obtain ⟨ρ₃, hb₃, hm₃⟩ := bindE hm₂
    obtain ⟨o, ho, hm₄⟩ := bindE hm₃
    refine wpAny_mono (T.turn i _ s₂ (fun v s₃ => wpAny (model prog w) A (PySem.assign tgt env v) (fun _ s₄ => wpAny (model prog w) A (execs body env) (fun fl s₅ => match fl with
            | .next | .cont => ∃ m, m < xs.length + 1 - i ∧ ForX prog w (Zs ++ Hz) hb s₀ env C (WW env C O) wr s₁.heap S bind mb f xs r m s₅
            | .brk => Q .next s₅
            | .ret v => Q (.ret v) s₅) (notedBy (model prog w) A env fun e s' => cameBackBy (model prog w) A env E e s') s₄) (notedBy (model prog w) A env fun e s' => cameBackBy (model prog w) A env E e s') s₃) (notedBy (model prog w) A env fun e s' => cameBackBy (model prog w) A env E e s') hx hS₂ (fun z hz => let ⟨_, o, e, _⟩ := I₂.base.hide z (List.mem_append_right _ hz); ⟨o, e⟩) fun v as h' tk rd has hS₃ kp => ?_) (fun rr s₃ h₃ => ?_) fun _ _ e => e
    · have I₃ := I₂.iterTo (Hy := Zs ++ Hz) (tk := tk) (T.inert i _ hS₂) (fun b hb' => ⟨(wrOk b hb').1, (wrOk b hb').2.1, wr₂ b hb'⟩) kp (fun _ q => q) (fun z hz hw => (List.mem_append.mp hz).elim (T.tups _ _ hS₃ z) fun q => absurd q (notHz z hw))
      have rep : Rep prog w (Zs ++ Hz) s₀.heap (WW env C O₂) h' v (V.fix xs[i] f) := by
        refine Rep.fixed rd ((wfs_iff _).mp hwf _ (List.getElem_mem _)) ?_
        induction f with
        | d => exact fun a ha => ⟨(hF a (has a ha)).1, F₂ a (has a ha)⟩
        | s => exact fun a ha => F₂ a (has a ha)
        | t => trivial
      refine ht hs hA.handled I₃ rep hb₃ fun s₄ I₄ T₄ => ?_
      have K₄ : S (i + 1) s₄.heap := T.frame _ _ _ (WW env C O₂) hS₃ (T₄.off I₃.walive) F₂ wr₂
      have keep₄ : ∀ b o, s₁.heap.get? b = some o → b ∉ WW env C O → b ∉ wr → s₄.heap.get? b = some o := fun b o e hw hq => T₄.keep b o (kp b o hq (K₂ b o e hw hq)) (out₂ b o e hw)
      have fin : ∀ {O₅ : List (String × List Addr)} {s₅ : Shared}, Step s₄.heap s₅.heap (WW env C O₂) (WW env C O₅) → (∀ b o, s₁.heap.get? b = some o → b ∉ WW env C O → b ∉ wr → s₅.heap.get? b = some o) ∧ (∀ a ∈ WW env C O₅, a ∈ WW env C O ∨ s₁.heap.get? a = none) := by
        intro O₅ s₅ T₅
        refine ⟨fun b o e hw hq => T₅.keep b o (keep₄ b o e hw hq) (out₂ b o e hw), fun a ha => ?_⟩
        rcases T₅.new a ha with q | q
        · exact N₂ a q
        · by_cases hw : a ∈ WW env C O
          · exact .inl hw
          · refine .inr ?_
            cases e : s₁.heap.get? a with
            | none => rfl
            | some o =>
              by_cases hq : a ∈ wr
              · obtain ⟨o', e'⟩ := T.there K₄ hq; rw [e'] at q; cases q
              · rw [keep₄ a o e hw hq] at q; cases q
      refine wpAny_passesOwn P (hbd hs hA U P I₄ ho ?_)
      induction o with
      | exc c x =>
        (have e := si hm₄; subst e; clear hm₄)
        exact hQ
      | out o =>
        induction o with
        | next ρ₅ =>
          intro O₅ s₅ I₅ T₅
          obtain ⟨f1, f2⟩ := fin T₅
          exact ⟨_, turn_lt hlt, .mk (i + 1) ρ₅ O₅ s₅ hlt I₅ f1 f2 (T.frame _ _ _ (WW env C O₂) K₄ (T₅.off I₄.walive) F₂ wr₂) hm₄⟩
        | cont ρ₅ =>
          intro O₅ s₅ I₅ T₅
          obtain ⟨f1, f2⟩ := fin T₅
          exact ⟨_, turn_lt hlt, .mk (i + 1) ρ₅ O₅ s₅ hlt I₅ f1 f2 (T.frame _ _ _ (WW env C O₂) K₄ (T₅.off I₄.walive) F₂ wr₂) hm₄⟩
        | brk ρ₅ =>
          (have e := si hm₄; subst e; clear hm₄)
          intro O₅ s₅ I₅ T₅
          obtain ⟨f1, f2⟩ := fin T₅
          exact hQ O₅ s₅ I₅.dropZ (step f1 f2)
        | ret y =>
          (have e := si hm₄; subst e; clear hm₄)
          exact Ends.hide (O := O) (s := s) (r := .ret y) hQ
        | retT y ρ =>
          (have e := si hm₄; subst e; clear hm₄)
          exact Ends.hide (O := O) (s := s) (r := .retT y ρ) hQ
    · induction rr with
      | none => exact h₃.elim
      | some v => exact h₃
  · have hi' : i = xs.length := by lia
    subst hi'
    simp only [List.drop_length, forX] at hm₂
    (have e := si hm₂; subst e; clear hm₂)
    refine T.done s₂ _ _ hS₂ fun h' tk kp => wpAny_execs_nil ?_
    have I₃ := I₂.iterTo (Hy := Hz) (tk := tk) (T.inert _ _ hS₂) (fun b hb' => ⟨(wrOk b hb').1, (wrOk b hb').2.1, wr₂ b hb'⟩) kp (fun _ q => List.mem_append_right _ q) (fun z hz hw => absurd hz (notHz z hw))
    exact hQ O₂ _ I₃ (step (fun b o e hw hq => kp b o hq (K₂ b o e hw hq)) N₂)
section
variable {A : Around} {env : Env} {s₀ s : Shared} {C : List Addr} {ρ : Rho} {O : List (String × List Addr)} {base : Heap} {outer : List Env}
theorem InF.grows (I : InF prog w Hz hb s₀ [] env C ρ O s) : Grow s₀.heap s.heap := fun b o e => I.keep b o e (fun q => nomatch q)
theorem Up.stay (U : Up base s₀ A env outer) (I : InF prog w Hz hb s₀ [] env C ρ O s) : base.StaysIn s.heap := fun b o e => I.grows b o (U.stays b o e)
theorem Up.frames (U : Up base s₀ A env outer) (I : InF prog w Hz hb s₀ [] env C ρ O s) : s.heap.FunFrames base (env :: outer) := by
  obtain ⟨m, hm, _⟩ := I.ns
  refine Heap.FunFrames.cons (by rw [I.kind]; decide) U.own hm ?_ ((Loose.of_grow I.grows).frames U.fr)
  cases q : base.get? env.locals with
  | none => rfl
  | some o =>
    have h := U.stays _ o q
    rw [((I.wfresh env.locals (List.mem_cons_self ..)).2 fun q => nomatch q)] at h
    exact no h
theorem Fly.up {l : List Env} {c : Addr} {x : PyData} {e : Addr} {s' : Shared} (I : InF prog w Hz hb s₀ [] env C ρ O s) (f : Fly base l c x s e s') : Fly base l c x s₀ e s' := by
  obtain ⟨h, tk, R, k⟩ := f
  have g := I.grows
  obtain ⟨h₁, t₁, rfl⟩ := I.same
  exact Fly.mk h tk R ((Loose.of_grow g).trans k)
end
noncomputable def DefX (prog : Program) (w : World) (hb : Heap) (n : Nat) (x : String) (m : List PyData → Option (PyData ⊕ Addr × PyData)) : Prop :=
  ∃ a o fd, GName hb x (.ref a) ∧ hb.get? a = some o ∧ o.data = .func fd ∧ FnX prog w hb n a m
theorem FnX.mono {f : Addr} {m : List PyData → Option (PyData ⊕ Addr × PyData)} {k : Nat} (h : FnX prog w hb k f m) (hk : k ≤ n) : FnX prog w hb n f m := by
  intro A Hz s us xs as y base l Q E hA hl st fr b rd hw hm hQ
  exact h (hA.mono hk) hl st fr b rd hw hm hQ
theorem DefX.of {x : String} {ps : List String} {body : List Stmt} {m : Rho → Option OutX} (D : DefAt hb x sc ps body) (h : StX prog w hb n sc body m) (spec : List PyData → Option (PyData ⊕ Addr × PyData)) (hm : ∀ xs y, spec xs = some y → fnX ps m xs = some y) :
    DefX prog w hb (n + 1) x spec := by
  obtain ⟨a, g, D⟩ := D
  obtain ⟨fo, fd, args, ho, hd, _⟩ := D.there
  refine ⟨a, fo, fd, g, ho, hd, ?_⟩
  intro A Hz s us xs as y base l Q E hA hl st fr b rd hw hy hQ
  exact FnX.def D h hA hl st fr b rd hw (hm xs y hy) hQ
section
variable {A : Around} {env : Env} {s₀ s : Shared} {C : List Addr} {ρ : Rho} {O : List (String × List Addr)} {base : Heap} {outer : List Env} {Q : Value → Shared → Prop} {E : Value → Shared → Prop}
theorem callX {x : String} {k : Nat} {es : List Expr} {np pos : Pos} {ms : Rho → Option (List V)} {m : List PyData → Option (PyData ⊕ Addr × PyData)} {vs : List V} {y : PyData ⊕ Addr × PyData} (h : DefX prog w hb k x m) (hes : Evs prog w hb n sc es ms) (hx : isGlob sc x = true) (hk : k ≤ n)
    (hstar : ∀ env : Env, (backTo pos (starEach es env)).any (·.1) = false) (hs : env.scope = sc) (hA : RoomF A n) (U : Up base s₀ A env outer) (I : InF prog w Hz hb s₀ [] env C ρ O s) (hv : ms ρ = some vs) (hm : m (vs.map (·.x)) = some y)
    (hQ : match y with
      | .inl y => ∀ u s', Keeps s s' → Rep prog w Hz s₀.heap (WW env C O) s'.heap u ⟨y, .d⟩ → Q u s'
      | .inr z => ∀ e s', Fly base (env :: outer) z.1 z.2 s₀ e s' → E (.ref e) s') :
    wpAny (model prog w) A (eval (.Call (.Name (Str.ofString x) np) es [] pos) env) Q E s := by
  obtain ⟨a, o, fd, g, ho, hd, hf⟩ := h
  show wpAny _ _ (eval (.Name (Str.ofString x) np) env >>= fun f => callWith pos f [] (backTo pos (starEach es env)) []) _ _ s
  refine wpAny_bind (eval_glob I (by rw [hs]; exact hx) g (callWith_ok (.inr (.inr ⟨a, o, fd, rfl, ho, hd⟩)) (hstar env) (hes hs hA I hv fun us s₁ k₁ r₁ => ⟨(I.grow k₁).base.grow, ?_⟩)))
  have I₁ := I.grow k₁
  obtain ⟨as, rd, c, _⟩ := r₁.rds
  refine (hf.mono hk) hA.toRoom U.frs (U.stay I₁) (U.frames I₁) I₁.base rd c hm ?_
  induction y with
  | inl y => exact fun u bs s' k ru cu fr => hQ u s' (keeps_trans k₁ k) ⟨bs, ru, cu, fun a ha => I₁.fresh (fr a ha)⟩
  | inr z => exact fun e s' f => hQ e s' (f.up I₁)
end
noncomputable def callOut (ρ : Rho) : PyData ⊕ Addr × PyData → OutX
  | .inl _ => .out (.next ρ)
  | .inr z => .exc z.1 z.2
theorem S1X.call {x : String} {k : Nat} {es : List Expr} {np pos p : Pos} {ms : Rho → Option (List V)} {m : List PyData → Option (PyData ⊕ Addr × PyData)} (h : DefX prog w hb k x m) (hes : Evs prog w hb n sc es ms) (hx : isGlob sc x = true) (hk : k ≤ n)
    (hstar : ∀ env : Env, (backTo pos (starEach es env)).any (·.1) = false) (hi : ∀ env : Env, env.scope = sc → interactive env = false) :
    S1X prog w hb n sc (.Expr (.Call (.Name (Str.ofString x) np) es [] pos) p) (fun ρ => (ms ρ).bind fun vs => (m (vs.map (·.x))).map (callOut ρ)) := by
  intro A Hz env s₀ C ρ O s r base outer Q E hs hA U P I hm hQ
  obtain ⟨vs, hv, hm⟩ := bindE hm
  obtain ⟨y, hy, e⟩ := Option.map_eq_some_iff.mp hm
  subst e
  refine wpAny_Expr_any (callX h hes hx hk hstar hs hA U I.toInF hv hy ?_) (hi env hs)
  induction y with
  | inl y => exact fun u s' k _ => hQ O s' (I.grow k) (Step.of_grow (keeps_grow k))
  | inr z => exact hQ
end

section
section
variable {prog : Program} {w : World} {A : Around} {E : Value → Shared → Prop} {h : Heap} {g : Array GenState} {d : Drawn} {t : Nat} {os : OsState}
variable {nm q : Str} {C N : Addr} {bs bm bmB : List Value} {hdct : Bool} {sn : List Str} {sub : List Value} {ab : Bool} {col : Option Bool} {dd : Option Addr} {k0 k1 k2 k3 k5 : Option Value} {B newId initId : String}
theorem type_call_own (F : ExcBaseFacts B newId initId bmB) (T : OwnTail h bmB bm) {mN : Str → Option Value} {rest : List Value} {fI : Addr} {oI : Obj} {Q : Fin → Shared → Prop}
    (hC : h.get? C = some (excClassObj nm q C N bs bm hdct sn sub ab col dd k0 k1 k2 k3 k5 newId)) (hn : h.Ns N mN) (hi : mN "__init__" = some (.ref fI))
    (hf : h.get? fI = some oI) (hfc : oI.cls = .type "function")
    (hq : ∀ h' e, Heap.MadeExcOf h h' e (.ref C) rest → wpAny (model prog w) A (call (.ref fI) (.ref e :: rest)) (fun r s' => r = .none ∧ Q (.done (.ret (.ref e))) s') E ⟨h', g, d, t, os⟩) (hrest : rest.length ≤ sizeLine) :
    wpAny (model prog w) A (Builtin.«type.__call__» ⟨.ref C :: rest, []⟩) Q E ⟨h, g, d, t, os⟩ := by
  repeat (first | with_reducible refine wpAny_loadPart_at hC ?_ | with_reducible refine wpAny_madeBy_exc hC ?_ | wp_step)
  refine codeAny_call_builtin_code (Code.quiet_builtin _ F.quiet) (wpAny_check_new_subT F T hC (codeAny_exc_new_subT F T hC ?_ hrest))
  show wpAny _ _ _ _ _ _
  generalize hh : (h.push { cls := .type "tuple", data := .seq rest.toArray }).push { cls := .ref C, data := .fields #[.ref h.objs.size, .none, .none, .none, .bool false, .none] } = h₁
  have gr : Grow h h₁ := fun b o e => by rw [← hh]; exact Heap.get?_push_of_some _ (Heap.get?_push_of_some _ e)
  have he : h₁.get? (h.objs.size + 1) = some { cls := .ref C, data := .fields #[.ref h.objs.size, .none, .none, .none, .bool false, .none] } := by rw [← hh]; heap_get
  have ht : h₁.get? h.objs.size = some { cls := .type "tuple", data := .seq rest.toArray } := by rw [← hh]; exact Heap.get?_push_of_some _ (Heap.get?_push_at rfl rfl)
  have hC₁ := gr _ _ hC
  have hcC : (Value.ref C :: bm).contains (.ref C) = true := by simp
  unfold isInstance
  repeat (first | with_reducible refine wpAny_loadPart_at he ?_ | (with_reducible refine wpAny_isSubtype_exc hC₁ ?_; rw [hcC]) | wp_step)
  show wpAny _ _ (typeLookup (.ref C) _) _ _ _
  refine wpAny_typeLookup_tail hC₁ (hn.keeps gr) (T.keeps gr) F.mroIs F.init.lookup ?_
  rw [hi]
  refine wpAny_holding (wpAny_bind ?_)
  unfold bindSpecial
  refine wpAny_bind (wpAny_typeOf (T := "function") ⟨_, gr _ _ hf, hfc⟩ ?_)
  rw [if_pos (by decide)]
  refine wpAny_pure (wpAny_bind (wpAny_mono (hq h₁ (h.objs.size + 1) ⟨gr, Heap.get?_none_of_le (Nat.le_succ _), h.objs.size, he, Heap.get?_none_of_le (Nat.le_refl _), ht⟩) (fun r s' hr => ?_) fun _ _ x => x))
  obtain ⟨rfl, hQ⟩ := hr
  wp_walk
  exact hQ
theorem call_own (F : ExcBaseFacts B newId initId bmB) (T : OwnTail h bmB bm) {mN : Str → Option Value} {rest : List Value} {fI : Addr} {oI : Obj} {Q : Value → Shared → Prop}
    (hC : h.get? C = some (excClassObj nm q C N bs bm hdct sn sub ab col dd k0 k1 k2 k3 k5 newId)) (hn : h.Ns N mN) (hi : mN "__init__" = some (.ref fI))
    (hf : h.get? fI = some oI) (hfc : oI.cls = .type "function")
    (hq : ∀ h' e, Heap.MadeExcOf h h' e (.ref C) rest →
      wpAny (model prog w) (A.under (.builtin "type.__call__" ⟨.ref C :: rest, []⟩)) (call (.ref fI) (.ref e :: rest)) (fun r s' => r = .none ∧ Q (.ref e) s') E ⟨h', g, d, t, os⟩) (hrest : rest.length ≤ sizeLine) :
    wpAny (model prog w) A (call (.ref C) rest) Q E ⟨h, g, d, t, os⟩ := by
  have f1 := tc_lookup
  have f2 := tc_bind (.ref C)
  have hT : (⟨h, g, d, t, os⟩ : Shared).TypeIs (.ref C) "type" := ⟨_, hC, rfl⟩
  refine wpAny_call (codeAny_of_tree ?_)
  show wpAny _ _ (callAny (.ref C) _) _ _ _
  repeat (any_goals (first | assumption | with_reducible refine wpAny_loadPart_at hC ?_ | wp_step))
  refine ⟨rfl, codeAny_call_builtin_at (Code.quiet_builtin _ (by decide +kernel)) entry_typeCall (wpAny_check_type_call_sub hC (type_call_own F T hC hn hi hf hfc (fun h' e hm => ?_) hrest))⟩
  exact hq h' e hm
end
end

section
section
variable {prog : Program} {w : World} {A : Around} {E : Value → Shared → Prop} {h : Heap} {g : Array GenState} {d : Drawn} {t : Nat} {os : OsState}
variable {nm q : Str} {C N : Addr} {bs bm bmB : List Value} {hdct : Bool} {sn : List Str} {sub : List Value} {ab : Bool} {col : Option Bool} {dd : Option Addr} {k0 k1 k2 k3 k5 : Option Value} {B newId initId : String}
noncomputable abbrev newExc (C T : Addr) : Obj := { cls := .ref C, data := .fields #[.ref T, .none, .none, .none, .bool false, .none] }
theorem base_init (F : ExcBaseFacts B newId initId bmB) (T : OwnTail h bmB bm) {e T₀ : Addr} {us : List Value} {Q : Value → Shared → Prop}
    (hC : h.get? C = some (excClassObj nm q C N bs bm hdct sn sub ab col dd k0 k1 k2 k3 k5 newId)) (he : h.get? e = some (newExc C T₀)) (hl : us.length ≤ sizeLine)
    (hq : ∀ h' T₁, h'.get? e = some (newExc C T₁) → (∀ b o, b ≠ e → h.get? b = some o → h'.get? b = some o) → Q .none ⟨h', g, d, t, os⟩) :
    wpAny (model prog w) A (call (.builtin initId) (.ref e :: us)) Q E ⟨h, g, d, t, os⟩ := by
  refine wpAny_call (codeAny_call_builtin F.init.plain F.initEntry (wpAny_check_init_subT F T hC he rfl ?_))
  wp_walk
  refine hq _ h.objs.size ?_ fun b o hb hv => ?_
  · rw [Heap.get?_update_self _ (Heap.get?_push_of_some _ he) rfl]
    rfl
  · rw [Heap.get?_update_other _ _ (Ne.symm hb)]
    exact Heap.get?_push_of_some _ hv
end
end

section
open PySem PySem.Calls PySem.W Builtin Builtin.ObjectAttr
section
variable {prog : Program} {w : World} {A : Around} {E : Value → Shared → Prop} {h : Heap} {g : Array GenState} {d : Drawn} {t : Nat} {os : OsState} {K : Frag} {C P : Addr}
noncomputable abbrev excD (C T D : Addr) : Obj := { cls := .ref C, dict := some D, data := .fields #[.ref T, .none, .none, .none, .bool false, .none] }
noncomputable abbrev veMro : List Value := [.type "ValueError", .type "Exception", .type "BaseException", .type "object"]
inductive ClsK (K : Frag) (C P : Addr) : Prop
  | mk (cd : ClassData) (h1 : clsIn K C = some cd) (h2 : cd.mro = .ref C :: .ref P :: veMro) (h3 : cd.hasDict = true) (h4 : findIn K (.ref C) "__setattr__" = some (some (.builtin "object.__setattr__"))) (h5 : findIn K (.ref C) "at" = some none) : ClsK K C P
theorem store_at (X : K.In h) (c : ClsK K C P) {e T : Addr} {v : Value} {Q : Unit → Shared → Prop} (he : h.get? e = some (newExc C T))
    (hq : ∀ h' D m tk, h'.get? e = some (excD C T D) → h.get? D = none → h'.Ns D m → m "at" = some v → (∀ b o, b ≠ e → h.get? b = some o → h'.get? b = some o) → Q () ⟨h', g, d, tk, os⟩) :
    wpAny (model prog w) A (setAttr (.ref e) "at" v) Q E ⟨h, g, d, t, os⟩ := by
  obtain ⟨cd, hc, hm, hd, hs, hn⟩ := c
  have I : InstAt h e (newExc C T) C none := ⟨he, rfl, rfl, trivial⟩
  refine set_plain (s := ⟨h, g, d, t, os⟩) X I hs ?_
  have SF := PySem.F.store_object
  have mro : ∀ {M : Model}, Looks M h (mroOf (.ref C)) cd.mro := (looks_clsIn X hc).andThen .now
  have sub : Looks (model prog w) h (isInstance (.ref e) (.type "object")) true := I.type.andThen (looks_mroIn X (by unfold mroIn; rw [hc, Option.bind_some, hm]; rfl))
  refine codeAny_call_builtin SF.slot.plain SF.entry (@check_slot (model prog w) _ _ ⟨h, g, d, t + 1, os⟩ "object.__setattr__" "object" "__setattr__" (.ref e) [.str "at" t, v] [] _ SF.kind SF.split sub (SF.args (.ref e) (.str "at" t) v) ?_)
  rw [osa_eq, refuse_eq]
  refine wpAny_bind (wpAny_bind (I.type.here (wpAny_bind (mro.here ?_))))
  rw [hm, refuseLoop_ref, refuseLoop_ref, PySem.F.store_ValueError.passes]
  refine wpAny_pure (wpAny_bind (I.type.here (wpAny_bind ((looks_findIn X hn).here (wpAny_bind (wpAny_pure ?_))))))
  have es : e ≠ h.objs.size := Nat.ne_of_lt (Heap.lt_size he)
  have he₁ : (h.push { cls := .type "dict", data := .dict #[] }).get? e = some (newExc C T) := Heap.get?_push_of_some _ he
  refine wpAny_bind (wpAny_pure (wpAny_bind (wpAny_bind (wpAny_loadPart he (wpAny_bind ((looks_clsIn X hc).here ?_))))))
  rw [hd]
  show wpAny (model prog w) A.in1 (alloc { cls := .type "dict", data := .dict #[] } >>= fun d => update e (fun o => { o with dict := some d }) >>= fun _ => pure (some d)) _ _ _
  refine wpAny_bind (wpAny_alloc' (wpAny_bind (wpAny_update' he₁ (wpAny_pure ?_))))
  generalize hh : (h.push { cls := .type "dict", data := .dict #[] }).update e (fun o => { o with dict := some h.objs.size }) = h₂
  have hd₂ : h₂.get? h.objs.size = some { cls := .type "dict", data := .dict #[] } := by
    rw [← hh]; exact (Heap.get?_update_ne _ _ _ _ es.symm).trans (Heap.get?_push_at rfl rfl)
  have he₂ : h₂.get? e = some (excD C T h.objs.size) := by rw [← hh]; exact Heap.get?_update_self _ he₁ rfl
  have g₂ : ∀ b o, b ≠ e → h.get? b = some o → h₂.get? b = some o := fun b o q e' => by
    rw [← hh, Heap.get?_update_ne _ _ _ _ q]; exact Heap.get?_push_of_some _ e'
  have nd : h₂.Ns h.objs.size (fun _ => none) := ⟨_, #[], _, hd₂, rfl, fun e he => absurd he (by simp), fun _ => rfl⟩
  show wpAny _ _ (storeInDict h.objs.size (.str "at" t) "at" v) _ _ _
  unfold storeInDict newKeyGuard
  refine wpAny_bind (wpAny_pure (wpAny_bind (wpAny_nsSet1 (Heap.Ns1.of_empty nd) fun h' hn' hs => ?_)))
  obtain ⟨oD, esD, epD, hoD, hdD, hcD⟩ := hn'.count (Within.cons "at" v Within.nil)
  refine wpAny_bind (wpAny_lookBehind hoD (by rw [hdD]; exact pastItsLine_dict (Nat.le_trans hcD (by rw [List.length_cons, List.length_nil, sizeLine_eq]; omega))) (wpAny_pure ?_))
  exact hq h' h.objs.size _ _ ((hs.2 e es).trans he₂) (Heap.get?_none_of_le (Nat.le_refl _)) hn'.ns (if_pos rfl) fun b o q e' => (hs.2 b (Nat.ne_of_lt (Heap.lt_size e'))).trans (g₂ b o q e')
end
end

section
open PySem PySem.Calls PySem.W
section
variable {prog : Program} {w : World} {A : Around} {E : Value → Shared → Prop} {s : Shared} {K : Frag} {P : Addr} {env : Env}
theorem call_clsm {o : Expr} {name : Str} {apos pos : Pos} {args : List Expr} {mc : Value} {id : String} {Q : Value → Shared → Prop} (hbase : attributeBase o name env (eval o env) = eval o env)
    (hfew : methodCallForm (args.length + ([] : List Keyword).length) (backTo pos (starEach args env)) (backToKw pos (keywordEach [] env)) = true) (hline : (apos.endLine == pos.line) = true)
    (hg : specialIn K (.ref P) "__getattribute__" = some (some (.builtin "type.__getattribute__"))) (hr : readsIn K P mc = true) (e : findCls K (.ref P) mc name = some (.val (.builtin id))) (hh : handedIn (.builtin id) = true)
    (h : wpAny (model prog w) A (eval o env) (fun ov s₁ => ov = .ref P ∧ K.In s₁.heap ∧ wpAny (model prog w) A (callWith pos (.builtin id) [] (backTo pos (starEach args env)) []) Q E { s₁ with toks := s₁.toks + 1 }) E s) :
    wpAny (model prog w) A (eval (.Call (.Attribute o name apos) args [] pos) env) Q E s := by
  rw [arm_eval_Call, hbase]
  refine wpAny_bind (wpAny_mono h (fun ov s₁ h₁ => ?_) fun _ _ e => e)
  obtain ⟨rfl, X, hc⟩ := h₁
  refine wpAny_bind (wpAny_standAt ?_)
  have hpos : methodCallPos true o env apos pos = pure pos := by unfold methodCallPos; simp [hline]
  unfold methodCall
  rw [hfew]
  refine wpAny_bind (wpAny_holding (method_cls X hg (cls_value X hr e hh ?_)))
  exact wpAny_bind (wpAny_of_eq hpos hc)
end
end

section
open PySem PySem.Calls PySem.W
section
variable {prog : Program} {w : World} {A : Around} {E : Value → Shared → Prop} {s : Shared} {K : Frag} {C P fI : Addr} {hb : Heap} {sc : Scope} {Hz : List Addr}
theorem eval_globR {env : Env} {Q : Value → Shared → Prop} {x : String} {pos : Pos} {v : Value} (hk : env.scope.kind = .function) (h1 : env.globals = mainGlobals) (h2 : env.builtins = builtinsNs) (g : Grow hb s.heap)
    (hx : isGlob env.scope x = true) (hg : GName hb x v) (h : Q v s) : wpAny (model prog w) A (eval (.Name (Str.ofString x) pos) env) Q E s := by
  simp only [isGlob, Bool.and_eq_true, decide_eq_true_eq, Bool.not_eq_true'] at hx
  rcases hg with ⟨mg, hm, hv⟩ | ⟨mg, mb, hm, h0, hm', hv⟩
  · exact Name_function_global hk hx.1 (loadGlobal_global (by rw [h1]; exact hm.keeps g) hv h) hx.2
  · exact Name_function_global hk hx.1 (loadGlobal_builtin (by rw [h1]; exact hm.keeps g) h0 (by rw [h2]; exact hm'.keeps g) hv h) hx.2
structure BaseK (K : Frag) (P : Addr) : Prop where
  g : specialIn K (.ref P) "__getattribute__" = some (some (.builtin "type.__getattribute__"))
  r : readsIn K P (.type "type") = true
  f : findCls K (.ref P) (.type "type") "__init__" = some (.val (.builtin "ValueError.__init__"))
  h : handedIn (.builtin "ValueError.__init__") = true
inductive ClsE (hb : Heap) (C : Addr) (bm : List Value) : Prop
  | mk (nm q : Str) (N : Addr) (bs : List Value) (hdct : Bool) (sn : List Str) (sub : List Value) (ab : Bool) (col : Option Bool) (dd : Option Addr) (k0 k1 k2 k3 k5 : Option Value)
      (h : hb.get? C = some (excClassObj nm q C N bs bm hdct sn sub ab col dd k0 k1 k2 k3 k5 "ValueError.__new__")) : ClsE hb C bm
theorem exc_init {q1 q2 q3 q4 q5 q6 q7 q8 q9 q10 : Pos} {e T : Addr} {u1 u2 : Value} {Q : Value → Shared → Prop} {bm : List Value}
    (D : DefOk hb fI sc ["self", "words", "at"] [.Expr (.Call (.Attribute (.Name (Str.ofString "PlotError") q1) (Str.ofString "__init__") q2) [.Name (Str.ofString "self") q3, .Name (Str.ofString "words") q4] [] q5) q6,
      .Assign [.Attribute (.Name (Str.ofString "self") q7) (Str.ofString "at") q8] (.Name (Str.ofString "at") q9) q10])
    (hloc : ∀ x ∈ ["self", "words", "at"], sc.names.lookup (Str.ofString x) = some .local) (hgl : isGlob sc "PlotError" = true) (hgn : GName hb "PlotError" (.ref P)) (hline : (q2.endLine == q5.line) = true)
    (X : K.In hb) (BK : BaseK K P) (CK : ClsK K C P) (CE : ClsE hb C bm) (OT : OwnTail hb veMro bm)
    (hA : Room A 1) (b : Base prog Hz hb s.heap) (he : s.heap.get? e = some (newExc C T)) (hne : hb.get? e = none)
    (hq : ∀ h' D m tk T', h'.get? e = some (excD C T' D) → h'.Ns D m → m "at" = some u2 → (∀ b o, b ≠ e → s.heap.get? b = some o → h'.get? b = some o) → Q .none { s with heap := h', toks := tk }) :
    wpAny (model prog w) A (call (.ref fI) [.ref e, u1, u2]) Q E s := by
  obtain ⟨fo, fd, args, ho, hd, hp, hnm, hbd, hsc, hcl, hdf, hgb, hbu, hcr⟩ := D.there
  have hul : args.length = [Value.ref e, u1, u2].length := by simpa using congrArg List.length hnm
  have hnames : (args.map (·.arg)).Nodup := by
    rw [hnm, List.Nodup, List.pairwise_map]
    exact D.names.imp fun h e => h (ofString_inj e)
  refine wpAny_call (codeAny_call_function (fd := fd) (by have := hA.depth; lia) (b.grow _ _ ho) hd (by rw [hsc]; exact D.co) (by rw [hsc]; exact D.gen) hbd (hcr.keeps b.grow) ?_)
  rw [bind_plain hp hdf hul hnames, hnm, hsc, hgb, hcl, hbu]
  refine wpAny_pure (wpAny_newFunctionEnv_cells D.kind (fun z hz => ?_) fun env hev s' x => ?_)
  · have := (List.of_mem_zip hz).1
    obtain ⟨p, hp', e⟩ := List.mem_map.mp this
    rw [← e]
    refine (isVar_kinds (D.vars p hp')).imp id fun q => ⟨q, cells_some _ _ _ (.inl q)⟩
  · have e1 : env.scope = sc := by rw [hev]; rfl
    have e2 : env.globals = mainGlobals := by rw [hev]; rfl
    have e3 : env.builtins = builtinsNs := by rw [hev]; rfl
    have hk : env.scope.kind = .function := by rw [e1]; exact D.kind
    have kl : ∀ x ∈ ["self", "words", "at"], env.kindOf (Str.ofString x) = some .local := fun x hx => by unfold Env.kindOf; rw [e1]; exact hloc x hx
    have ns := x.toInCall.ns
    have gr : Grow s.heap s'.heap := x.toInCall.keep
    have v1 := (bind_val (k := env.kindOf) (m := fun _ => none) (c := fun _ => none) D.names (show ((["self", "words", "at"] : List String).zip [Value.ref e, u1, u2]).lookup "self" = some (.ref e) from rfl)).1 (kl _ (.head _))
    have v2 := (bind_val (k := env.kindOf) (m := fun _ => none) (c := fun _ => none) D.names (show ((["self", "words", "at"] : List String).zip [Value.ref e, u1, u2]).lookup "words" = some u1 from rfl)).1 (kl _ (.tail _ (.head _)))
    have v3 := (bind_val (k := env.kindOf) (m := fun _ => none) (c := fun _ => none) D.names (show ((["self", "words", "at"] : List String).zip [Value.ref e, u1, u2]).lookup "at" = some u2 from rfl)).1 (kl _ (.tail _ (.tail _ (.head _))))
    have hbg : Grow hb s'.heap := b.grow.trans gr
    refine ⟨b.lim.keeps hbg, codeAny_func (wpAny_execs_cons (wpAny_Expr_any (call_clsm (K := K) (P := P) (mc := .type "type") (id := "ValueError.__init__") rfl rfl hline BK.g BK.r BK.f BK.h (eval_globR hk e2 e3 hbg (by rw [e1]; exact hgl) hgn ⟨rfl, X.keeps hbg, ?_⟩)) (by unfold interactive; rw [hk]; rfl)))⟩
    obtain ⟨nm, q, N, bs, hdct, sn, sub, ab, col, dd, k0, k1, k2, k3, k5, hC⟩ := CE
    refine callWith_ok (hb := hb) (.inl ⟨_, rfl⟩) rfl (wpAny_items_cons (wpAny_Name (wpAny_loadName_local hk (kl _ (.head _)) ns v1 (wpAny_items_cons (wpAny_Name (wpAny_loadName_local hk (kl _ (.tail _ (.head _))) ns v2 (wpAny_items_nil ⟨hbg, ?_⟩)) (by decide)))) (by decide)))
    have ne : env.locals ≠ e := fun q => by have := x.toInCall.fresh; rw [q] at this; exact absurd (Heap.lt_size he) (Nat.not_lt.mpr this)
    refine base_init PySem.F.excBase_ValueError (OT.keeps hbg) (hbg _ _ hC) (gr _ _ he) (show 1 ≤ sizeLine by decide) fun h₁ T₁ he₁ k₁ => ?_
    have ns₁ : h₁.Ns env.locals _ := let ⟨o, es, ep, e', r⟩ := ns; ⟨o, es, ep, k₁ _ _ ne e', r⟩
    have X₁ : K.In h₁ := fun a o q => k₁ a o (fun z => by have := X a o q; rw [z] at this; rw [hne] at this; exact no this) (hbg _ _ (X a o q))
    refine wpAny_execs_cons (plainObj_wpAny_Assign_Attribute (wpAny_Name (wpAny_loadName_local hk (kl _ (.tail _ (.tail _ (.head _)))) ns₁ v3 (wpAny_Name (wpAny_loadName_local hk (kl _ (.head _)) ns₁ v1 ?_) (by decide))) (by decide)) rfl)
    refine store_at X₁ CK he₁ fun h₂ D₂ m tk he₂ _ hn₂ hm₂ k₂ => wpAny_execs_nil ?_
    obtain ⟨h', tk', rfl⟩ := x.toInCall.same
    exact hq h₂ D₂ m tk T₁ he₂ hn₂ hm₂ fun c o q e' => k₂ c o q (k₁ c o q (gr _ _ e'))
end
end

section
open PySem PySem.Calls PySem.W
section
variable {M : Model} {A : Around} {E : Value → Shared → Prop} {s : Shared} {env : Env} {C : Addr} {bm : List Value}
theorem raise_made {x : Sem Value} {Q : Flow → Shared → Prop} (hbase : bm.contains (.type "BaseException") = true) (hh : A.handled = none)
    (h : wpAny M A x (fun v s₁ => ∃ e T D, v = .ref e ∧ ClsE s₁.heap C bm ∧ s₁.heap.get? e = some (excD C T D) ∧ E (.ref e) s₁) E s) :
    wpAny M A (raiseStmt env (some x) none) Q E s := by
  have hcB : (Value.ref C :: bm).contains (.type "BaseException") = true := by rw [List.contains_cons, hbase, Bool.or_true]
  unfold raiseStmt
  refine wpAny_bind (wpAny_mono h (fun v s₁ h₁ => ?_) fun _ _ x => x)
  obtain ⟨e, T, D, rfl, ⟨nm, q, N, bs, hdct, sn, sub, ab, col, dd, k0, k1, k2, k3, k5, hC⟩, he, hE⟩ := h₁
  obtain ⟨hp, g, d, tk, os⟩ := s₁
  repeat (first | with_reducible refine wpAny_loadPart_at he ?_ | with_reducible refine wpAny_loadPart_at hC ?_ | (with_reducible refine wpAny_isSubtype_exc hC ?_; rw [hcB]) | wp_step)
  exact wpAny_raiseNew_none hh hE
end
end

section
open PySem PySem.Calls PySem.W
variable {prog : Program} {w : World} {hb : Heap} {n : Nat} {sc : Scope}
inductive ExcG (hb : Heap) (x : String) (C : Addr) : Prop
  | mk (K : Frag) (P fI N : Addr) (sI : Scope) (bm : List Value) (mN : Str → Option Value) (oI : Obj) (q1 q2 q3 q4 q5 q6 q7 q8 q9 q10 : Pos) (nm q : Str) (bs : List Value) (hdct : Bool) (sn : List Str) (sub : List Value) (ab : Bool) (col : Option Bool) (dd : Option Addr) (k0 k1 k2 k3 k5 : Option Value)
    (g : GName hb x (.ref C)) (hC : hb.get? C = some (excClassObj nm q C N bs bm hdct sn sub ab col dd k0 k1 k2 k3 k5 "ValueError.__new__")) (hn : hb.Ns N mN) (hi : mN "__init__" = some (.ref fI)) (hf : hb.get? fI = some oI) (hfc : oI.cls = .type "function")
    (D : DefOk hb fI sI ["self", "words", "at"] [.Expr (.Call (.Attribute (.Name (Str.ofString "PlotError") q1) (Str.ofString "__init__") q2) [.Name (Str.ofString "self") q3, .Name (Str.ofString "words") q4] [] q5) q6,
      .Assign [.Attribute (.Name (Str.ofString "self") q7) (Str.ofString "at") q8] (.Name (Str.ofString "at") q9) q10])
    (hloc : ∀ x ∈ ["self", "words", "at"], sI.names.lookup (Str.ofString x) = some .local) (hgl : isGlob sI "PlotError" = true) (hgn : GName hb "PlotError" (.ref P)) (hline : (q2.endLine == q5.line) = true)
    (X : K.In hb) (BK : BaseK K P) (CK : ClsK K C P) (OT : OwnTail hb veMro bm) (hbase : bm.contains (.type "BaseException") = true) : ExcG hb x C
noncomputable def atD : PyData → Bool
  | .none => true
  | .int _ => true
  | _ => false
theorem at_of {Hz : List Addr} {h : Heap} {u : Value} {x : PyData} {as : List Addr} (r : RD prog w Hz h u x as) (hx : atD x = true) : AtV u x := by
  cases x with
  | none => cases r; exact .none
  | int i => induction r.intI with | mk t => exact .int i t
  | _ => cases hx
noncomputable def raiseD (C : Addr) (vs : List V) : Option OutX := match vs with
  | [_, v] => if atD v.x then some (.exc C v.x) else none
  | _ => none
theorem S1X.raise {x : String} {C : Addr} {e1 e2 : Expr} {np cpos pos : Pos} {ms : Rho → Option (List V)} (G : ExcG hb x C) (hes : Evs prog w hb n sc [e1, e2] ms) (hx : isGlob sc x = true) (hn2 : 2 ≤ n)
    (he : ∀ env : Env, starEach [e1, e2] env = (false, eval e1 env) :: starEach [e2] env) (hplain : ∀ env : Env, (backTo cpos (starEach [e1, e2] env)).any (·.1) = false) :
    S1X prog w hb n sc (.Raise (some (.Call (.Name (Str.ofString x) np) [e1, e2] [] cpos)) none pos) (fun ρ => (ms ρ).bind (raiseD C)) := by
  intro A Hz env s₀ C' ρ O s r base outer Q E hs hA U P I hm hQ
  obtain ⟨vs, hv, hm⟩ := bindE hm
  obtain ⟨K, P', fI, N, sI, bm, mN, oI, q1, q2, q3, q4, q5, q6, q7, q8, q9, q10, nm, q, bs, hdct, sn, sub, ab, col, dd, k0, k1, k2, k3, k5, g, hC, hnN, hi, hf, hfc, D, hloc, hgl, hgn, hline, X, BK, CK, OT, hbase⟩ := G
  rw [arm_exec_Raise]
  refine wpAny_bind (wpAny_standAt (raise_made (C := C) (bm := bm) hbase hA.handled ?_))
  refine wpAny_bind (wpAny_mono (wpAny_Call_ofName (eval_glob I.toInF (by rw [hs]; exact hx) g ?_)) (fun v s₃ h₃ => wpAny_bind (wpAny_standAt (wpAny_pure h₃))) fun _ _ x => x)
  unfold callWith
  refine wpAny_bind (wpAny_holding (wpAny_mono (Q := fun a s₂ => a.kw = [] ∧ Keeps s s₂ ∧ Reps prog w Hz s₀.heap (WW env C' O) s₂.heap a.pos vs) ?_ (fun a s₂ h₂ => wpAny_bind (wpAny_standAt ?_)) fun _ _ x => x))
  · have sp := hes (pos := cpos) (Q := fun us s₂ => ([] : List (Str × Value)) = [] ∧ Keeps s s₂ ∧ Reps prog w Hz s₀.heap (WW env C' O) s₂.heap us vs) (E := E) hs hA I.toInF hv fun us s₂ k r => ⟨rfl, k, r⟩
    have hp := hplain env
    generalize backTo cpos (starEach [e1, e2] env) = l at hp sp ⊢
    cases l with
    | nil => exact fun Γ p hΓ => evalArgs_none (sp Γ p hΓ) Γ p hΓ
    | cons p l =>
      obtain ⟨b, t⟩ := p
      simp only [List.any_cons, Bool.or_eq_false_iff] at hp
      obtain ⟨rfl, _⟩ := hp
      exact evalArgs_plain sp
  obtain ⟨us, kw⟩ := a
  obtain ⟨ekw, k₂, r₂⟩ := h₂
  obtain rfl : kw = [] := ekw
  have I₂ := I.grow k₂
  have hbg := I₂.base.grow
  have stay := U.stay I₂.toInF
  have frs := U.frames I₂.toInF
  have gs := I₂.toInF.grows
  have bs₂ := I₂.base
  have sm := I₂.same
  obtain ⟨h, gg, d, tk, os⟩ := s₂
  dsimp only at hbg stay frs gs bs₂ sm r₂
  simp only [hplain]
  refine wpAny_bind (wpAny_keeperOf_exc (hbg _ _ hC) ?_)
  unfold raiseD at hm
  split at hm
  · rename_i v1 v2
    split at hm
    · rename_i hat
      (have e := si hm; subst e; clear hm)
      obtain ⟨u1, u2, rfl, _, ra⟩ := r₂.two_inv
      obtain ⟨as, rd, _, _⟩ := ra
      have av := at_of rd hat
      refine wpAny_bind (call_own PySem.F.excBase_ValueError (OT.keeps hbg) (hbg _ _ hC) (hnN.keeps hbg) hi (hbg _ _ hf) hfc (fun h' e hm' => ?_) (show 2 ≤ sizeLine by decide))
      obtain ⟨T, hT, _⟩ := hm'.there
      have hne : hb.get? e = none := by
        cases z : hb.get? e with
        | none => rfl
        | some o => have := hbg _ _ z; rw [hm'.new] at this; exact no this
      refine exc_init D hloc hgl hgn hline X BK CK ⟨nm, q, N, bs, hdct, sn, sub, ab, col, dd, k0, k1, k2, k3, k5, hC⟩ OT (Room.under (hA.toRoom.mono hn2)) (bs₂.trans hm'.keeps) hT hne fun h₃ D₃ m tk₃ T₃ he₃ hn₃ hm₃ k₃ => ⟨rfl, wpAny_bind (wpAny_holding (wpAny_point (wpAny_pure ?_)))⟩
      have gr : Grow h h₃ := fun b o z => k₃ b o (fun y => by rw [y, hm'.new] at z; exact no z) (hm'.keeps _ _ z)
      refine ⟨e, T₃, D₃, rfl, ⟨nm, q, N, bs, hdct, sn, sub, ab, col, dd, k0, k1, k2, k3, k5, gr _ _ (hbg _ _ hC)⟩, he₃, ?_⟩
      obtain ⟨h₀, t₀, e₀⟩ := sm
      have R : Raised base (env :: outer) e (.ref C) v2.x h₃ := by
        refine ⟨?_, fun b o z => gr _ _ (stay b o z), (Loose.of_grow gr).frames frs, .mk _ _ he₃ rfl rfl .none (.mk D₃ m u2 hn₃ hm₃ av)⟩
        cases z : base.get? e with
        | none => rfl
        | some o => have := stay _ _ z; rw [hm'.new] at this; exact no this
      have F := Fly.mk (s₀ := s₀) h₃ tk₃ R ((Loose.of_grow gs).trans (Loose.of_grow gr))
      have := hQ e _ F
      cases e₀
      exact this
    · exact no hm
  · exact no hm
end

section
open PySem PySem.Calls PySem.W
section
variable {M : Model} {A : Around} {E : Value → Shared → Prop} {h : Heap} {g : Array GenState} {d : Drawn} {t : Nat} {os : OsState} {C S e : Addr} {bm bn : List Value} {oe : Obj}
theorem matches_own {Q : Bool → Shared → Prop} (hC : ClsE h C bm) (hS : ClsE h S bn) (he : h.get? e = some oe) (hcls : oe.cls = .ref C) (hbase : bn.contains (.type "BaseException") = true)
    (hq : Q ((Value.ref C :: bm).contains (.ref S)) ⟨h, g, d, t, os⟩) : wpAny M A (excMatches (.ref e) (.ref S)) Q E ⟨h, g, d, t, os⟩ := by
  obtain ⟨nm, q, N, bs, hdct, sn, sub, ab, col, dd, k0, k1, k2, k3, k5, hC⟩ := hC
  obtain ⟨nm', q', N', bs', hdct', sn', sub', ab', col', dd', l0, l1, l2, l3, l5, hS⟩ := hS
  have hcB : (Value.ref S :: bn).contains (.type "BaseException") = true := by rw [List.contains_cons, hbase, Bool.or_true]
  have f := tc_notTuple
  unfold excMatches
  generalize hb : (Value.ref C :: bm).contains (.ref S) = b at hq
  repeat (first | (with_reducible refine wpAny_loadPart_at he ?_; rw [hcls]) | with_reducible refine wpAny_loadPart_at hS ?_ | (with_reducible refine wpAny_isSubtype_exc hS ?_; rw [hcB]) | (with_reducible refine wpAny_isSubtype_exc hC ?_; rw [hb]) | wp_step)
  cases b <;> (wp_walk; exact hq)
end
end

section
open PySem PySem.Calls PySem.W
section
variable {prog : Program} {w : World} {A : Around} {E : Value → Shared → Prop} {s : Shared} {env : Env} {C S e : Addr} {bm bn : List Value}
noncomputable abbrev backE (prog : Program) (w : World) (A : Around) (env : Env) (e : Addr) (E : Value → Shared → Prop) : Value → Shared → Prop := notedBy (model prog w) (A.mark (some (.ref e))) env (cameBackBy (model prog w) A env E)
theorem handle_as {t : Expr} {n : Str} {b₀ : Stmt} {suite : List Stmt} {pos : Pos} {rest : List ExceptHandler} {Q : Flow → Shared → Prop} (hbase : bn.contains (.type "BaseException") = true)
    (h : wpAny (model prog w) (A.mark (some (.ref e))) (eval t env) (fun c s₁ => c = .ref S ∧ ClsE s₁.heap C bm ∧ ClsE s₁.heap S bn ∧ (∃ oe, s₁.heap.get? e = some oe ∧ oe.cls = .ref C) ∧
      if (Value.ref C :: bm).contains (.ref S) then
        wpAny (model prog w) (A.mark (some (.ref e))) (setFlight (.ref e) none) (fun _ s₂ => wpAny (model prog w) (A.mark (some (.ref e))) (storeName env n (.ref e)) (fun _ s₃ =>
            wpAny (model prog w) (A.mark (some (.ref e))) (execs (b₀ :: suite) env)
              (fun f s₄ => wpAny (model prog w) A (do bindName env n .none; unbindBehindTheSuite env n pos) (fun _ s₅ => Q f s₅) E s₄)
              (AsSuiteRaised (model prog w) (A.mark (some (.ref e))) env n pos (backE prog w A env e E)) s₃) (backE prog w A env e E) s₂) (backE prog w A env e E) s₁
      else wpAny (model prog w) A (handleBy (.ref e) env rest) Q E s₁) (backE prog w A env e E) s) :
    wpAny (model prog w) A (handleBy (.ref e) env (.ExceptHandler (some t) (some n) (b₀ :: suite) pos :: rest)) Q E s := by
  refine wpAny_handleBy_cons (codeAny_handlers_test (wpAny_mono h (fun c s₁ h₁ => ?_) fun _ _ y => y)) (by intro q; cases q)
  obtain ⟨rfl, hC, hS, ⟨oe, he, hcls⟩, hk⟩ := h₁
  obtain ⟨hh, g, d, tk, os⟩ := s₁
  refine matches_own hC hS he hcls hbase ?_
  cases hb : (Value.ref C :: bm).contains (.ref S) with
  | true => rw [hb] at hk; exact codeAny_handlers_suite_as hk
  | false => rw [hb] at hk; exact hk
end
end

section
open PySem PySem.Calls PySem.W
theorem AtV.handed {u : Value} {x : PyData} (a : AtV u x) : handedIn u = true := by cases a <;> rfl
theorem look_ns {o : Obj} {es : Array DictEntry} {ep : Nat} {name : Str} {u : Value} (hd : o.data = .dict es ep) (hf : nsFind es name = some u) : lookIn name o = some (some u) := by
  unfold lookIn
  rw [hd]
  unfold nsFind findBy at hf
  rw [← Array.find?_toList] at hf
  dsimp only
  cases q : es.toList.find? (·.key.isStr name) with
  | none => rw [q] at hf; cases hf
  | some en => rw [q] at hf; cases hf; rfl
structure GetK (K : Frag) (D : Addr) : Prop where
  ga : findIn K (.ref D) "__getattribute__" = some (some (.builtin "BaseException.__getattribute__"))
  gt : findIn K (.ref D) "__getattr__" = some none
  be : mroIn K D (.type "BaseException") = some true
section
variable {prog : Program} {w : World} {A : Around} {E : Value → Shared → Prop} {s : Shared} {K : Frag} {C P e : Addr} {base : Heap} {x : PyData} {l : List Env} {oe : Obj} {od : Option Obj}
theorem exc_by {fill expr : Bool} {name : Str} {tk : Tok} {Q : Value → Shared → Prop} (X : K.In s.heap) (I : InstAt s.heap e oe C od) (G : GetK K C)
    (h : wpAny (model prog w) A.in1 (Builtin.«object.__getattribute__» ⟨[.ref e, .str name tk], []⟩) (fun fin s' => match fin with | .done f => (match f with | .ret v => wpAny (model prog w) A (handedOut v) Q E s' | _ => False) | .again c => c.quiet = true ∧ codeAny (model prog w) A c (fun r s' => match r with | .ok (.ret v) => wpAny (model prog w) A (handedOut v) Q E s' | _ => False) s') (fun _ _ => False) s) :
    wpAny (model prog w) A (getAttrBy (.ref e) (.str name tk) fill expr) Q E s := by
  obtain ⟨hh, g, d, t, os⟩ := s
  have L0 := I.type (M := model prog w)
  have L1 := looks_findIn (M := model prog w) X G.ga
  have L2 := looks_findIn (M := model prog w) X G.gt
  have L3 : Looks (model prog w) hh (isInstance (.ref e) (.type "BaseException")) true := L0.andThen (looks_mroIn X G.be)
  have f3 := PySem.F.attr_ValueError.ga.bind (.ref e)
  have hx0 : (expr && onTheHeap (Value.builtin "BaseException.__getattribute__")) = false := by cases expr <;> rfl
  have hx2 : (Value.builtin "BaseException.__getattribute__" == Value.builtin "object.__getattribute__") = false := by decide +kernel
  have hx1 : (onTheHeap (Value.ref C) && Value.builtin "BaseException.__getattribute__" == Value.builtin "object.__getattribute__") = false := by rw [hx2]; rfl
  unfold getAttrBy
  refine wpAny_holding (wpAny_bind (L0.at (wpAny_bind (L1.at ?_))))
  show wpAny _ _ (if (onTheHeap (Value.ref C) && Value.builtin "BaseException.__getattribute__" == Value.builtin "object.__getattribute__") = true then _ else getAttrByItsOwn (.ref e) (.str name tk) (.ref C) (.builtin "BaseException.__getattribute__") fill expr) _ _ _
  rw [if_neg (by rw [hx1]; exact Bool.false_ne_true)]
  unfold getAttrByItsOwn hookBefore callGetattribute boundAndCalled
  rw [if_neg (show ¬ (expr && onTheHeap (Value.builtin "BaseException.__getattribute__")) = true by rw [hx0]; exact Bool.false_ne_true), f3]
  show wpAny _ _ (typeLookup (.ref C) "__getattr__" >>= _) _ _ _
  refine wpAny_bind (L2.at (wpAny_bind (wpAny_attempt (wpAny_holding (wpAny_bind (wpAny_pure ?_))))))
  show wpAny _ _ (call (.builtin "BaseException.__getattribute__") [.ref e, .str name tk]) _ _ _
  refine wpAny_call (codeAny_call_builtin PySem.F.attr_ValueError.ga.plain F.entry_bexc_ga (@check_slot (model prog w) _ _ ⟨hh, g, d, t, os⟩ "BaseException.__getattribute__" "BaseException" "__getattribute__" (.ref e) [.str name tk] [] _ (by decide +kernel) (by decide +kernel) L3 (F.args_bexc_ga (.ref e) (.str name tk)) ?_))
  refine wpAny_mono h (fun fin s' z => ?_) fun _ _ z => z.elim
  cases fin with
  | done f => cases f <;> first | exact z | exact z.elim
  | again c =>
    refine ⟨z.1, codeAny_mono z.2 fun r s' y => ?_⟩
    cases r with
    | ok f => cases f <;> first | exact y | exact y.elim
    | error x => exact y.elim
theorem exc_value {fill expr : Bool} {name : Str} {tk : Tok} {v : Value} {Q : Value → Shared → Prop} (X : K.In s.heap) (I : InstAt s.heap e oe C od) (G : GetK K C) (hf : findObj K C od name = some (.value v)) (hh : handedIn v = true) (h : Q v s) :
    wpAny (model prog w) A (getAttrBy (.ref e) (.str name tk) fill expr) Q E s := by
  refine exc_by X I G ?_
  obtain ⟨hp, g, d, t, os⟩ := s
  have L0 := I.type (M := model prog w)
  have L1 := looks_find (M := model prog w) X I hf
  refine wpAny_bind (wpAny_pure (wpAny_bind (wpAny_pure (wpAny_bind (L0.at (wpAny_bind (L1.at ?_)))))))
  refine wpAny_pure ?_
  show wpAny _ _ (handedOut v) _ _ _
  rw [handedOut_of hh]; exact wpAny_pure h
theorem get_at {expr : Bool} {Q : Value → Shared → Prop} (X : K.In s.heap) (c : ClsK K C P) (G : GetK K C) (R : Raised base l e (.ref C) x s.heap)
    (h : ∀ u, AtV u x → Q u { s with toks := s.toks + 1 }) : wpAny (model prog w) A (getAttr (.ref e) (Str.ofString "at") expr) Q E s := by
  obtain ⟨cd, hc, hm, hd, hs, hn⟩ := c
  obtain ⟨_, _, _, oe, vs, he, hcls, hv, _, ho⟩ := R
  generalize hq : oe.dict = dx at ho
  obtain ⟨D, m, u, ⟨o, es, ep, hD, hdd, _, hf⟩, hu, av⟩ := ho
  have I : InstAt s.heap e oe C (some o) := ⟨he, hcls, by unfold notCls; rw [hv], by rw [hq]; exact hD⟩
  unfold getAttr
  refine wpAny_bind (wpAny_mkText (exc_value (s := { s with toks := s.toks + 1 }) X I G (v := u) ?_ av.handed (h u av)))
  have lk := look_ns hdd ((hf _).trans hu)
  unfold findObj
  rw [hc, Option.bind_some, hn]
  simp only [Option.bind_some]
  unfold ownOf
  rw [hd, if_pos rfl]
  simp only [lk, Option.bind_some]
end
end

section
variable {prog : Program} {w : World} {Hz : List Addr} {hb : Heap} {n : Nat} {sc : Scope}
noncomputable def rhoD : List String → List PyData → Rho
  | p :: ps, x :: xs => fun y => bif y == p then some (.val ⟨x, .d⟩) else rhoD ps xs y
  | _, _ => fun _ => none
theorem rhoD_eq : ∀ (ps : List String) (xs : List PyData) (y : String), rhoD ps xs y = ((ps.zip xs).lookup y).map fun x => .val ⟨x, .d⟩
  | [], _, _ => rfl
  | _ :: _, [], _ => by rw [List.zip_nil_right]; rfl
  | p :: ps, x :: xs, y => by
    show (bif y == p then _ else rhoD ps xs y) = _
    rw [rhoD_eq ps xs y, List.zip_cons_cons, List.lookup_cons]
    cases (y == p) <;> rfl
noncomputable def rhoH (ps : List String) (xs : List PyData) : Rho := match ps, xs with
  | p :: ps, x :: xs => fun y => bif y == p then some (.val (V.fix x .s)) else rhoD ps xs y
  | _, _ => fun _ => none
theorem InS.startD {s s' : Shared} {env : Env} {p₀ : String} {ps : List String} {u₀ : Value} {us : List Value} {x₀ : PyData} {xs : List PyData} {as₀ as : List Addr} (b : Base prog Hz hb s.heap) (hsc : env.scope = sc) (hk : sc.kind = .function) (hg : env.globals = mainGlobals) (hbu : env.builtins = builtinsNs)
    (hcells : env.cells = cellsFrom (env.locals + 1) sc.names []) (honce : cellsOnce sc = true) (hnd : (p₀ :: ps).Nodup) (rd₀ : RD prog w Hz s.heap u₀ x₀ as₀) (rd : RDs prog w Hz s.heap us xs as) (hw : wfs (x₀ :: xs) = true)
    (x : InCallC s env.locals (bindL env.kindOf (((p₀ :: ps).map Str.ofString).zip (u₀ :: us)) fun _ => none) env.cells (bindC env.kindOf (((p₀ :: ps).map Str.ofString).zip (u₀ :: us)) fun _ => none) s') :
    InS prog w Hz hb { s with heap := hideH as s.heap } [] env (env.cells.map (·.2)) (rhoH (p₀ :: ps) (x₀ :: xs)) [] s' := by
  have I := InS.start (w := w) b hsc hk hg hbu hcells honce hnd (.cons rd₀ rd) hw x
  have keep := x.toInCall.keep
  have foot : ∀ {u : Value} {d : PyData} {bs : List Addr}, RD prog w Hz s.heap u d bs → ∀ a ∈ bs, a ∉ WW env (env.cells.map (·.2)) [] := fun r a ha hq => by
    obtain ⟨o, e⟩ := r.alive a ha
    rw [(I.wfresh a hq).2 (fun q => nomatch q)] at e
    exact no e
  have vars : ∀ y vv, rhoH (p₀ :: ps) (x₀ :: xs) y = some vv → ∃ u, RepVV prog w Hz (hideH as s.heap) (WW env (env.cells.map (·.2)) []) [] s'.heap y u vv ∧
      (env.kindOf (Str.ofString y) = some .local → bindL env.kindOf (((p₀ :: ps).map Str.ofString).zip (u₀ :: us)) (fun _ => none) (Str.ofString y) = some u) ∧ (env.kindOf (Str.ofString y) ≠ some .local → bindC env.kindOf (((p₀ :: ps).map Str.ofString).zip (u₀ :: us)) (fun _ => none) (Str.ofString y) = some u) := by
    intro y vv e
    rw [List.nodup_cons] at hnd
    have e : (bif y == p₀ then some (VV.val (V.fix x₀ .s)) else rhoD ps xs y) = some vv := e
    by_cases hy : y = p₀
    · subst hy
      rw [beq_self_eq_true, cond_true] at e
      (have e := si e; subst e; clear e)
      refine ⟨u₀, ⟨?_, Rep.fixed (rd₀.grow keep) ((wfs_iff _).mp hw _ (.head _)) (foot rd₀)⟩, fun hk => ?_, fun hk => ?_⟩
      · unfold V.fix
        split
        · exact .inl rfl
        · exact .inr rfl
      · rw [List.map_cons, List.zip_cons_cons, bindL, bindL_other (zip_names hnd.1), if_pos hk]; exact if_pos rfl
      · rw [List.map_cons, List.zip_cons_cons, bindC, bindC_other (zip_names hnd.1), if_neg hk]; exact if_pos rfl
    · have hyp : (y == p₀) = false := by simpa using hy
      rw [hyp, cond_false, rhoD_eq] at e
      induction mapE e with | mk d hd => ?_
      obtain ⟨u, bs, q1, q2, q3, q4, q5⟩ := bind_at (k := env.kindOf) (m := if env.kindOf (Str.ofString p₀) = some .local then fun y => if y = Str.ofString p₀ then some u₀ else none else fun _ => none) (c := if env.kindOf (Str.ofString p₀) = some .local then fun _ => none else fun y => if y = Str.ofString p₀ then some u₀ else none) hnd.2 rd hd
      refine ⟨u, ⟨.inl rfl, bs, q1.grow keep, (wfs_iff _).mp hw _ (.tail _ q3), fun a ha => ⟨?_, foot q1 a ha⟩⟩, q4, q5⟩
      rw [hideH_get, if_pos (q2 a ha)]
  refine ⟨⟨?_, I.base, fun b o e _ => I.keep b o (hideH_sub _ _ e) (fun q => nomatch q), fun b o e => I.alive b o (hideH_sub _ _ e), I.walive, fun a ha => ⟨(I.wfresh a ha).1, fun _ => ?_⟩, I.wnodup, I.kind, I.glob, I.bult, I.clk, ⟨_, x.toInCall.ns, fun y vv e1 e2 => ?_⟩, fun y vv e1 e2 => ?_⟩, I.fc, I.finj, I.cello⟩
  · obtain ⟨h, tk, e⟩ := I.same
    exact ⟨h, tk, e⟩
  · cases e : (hideH as s.heap).get? a with
    | none => rfl
    | some o => have := hideH_sub _ _ e; rw [(I.wfresh a ha).2 (fun q => nomatch q)] at this; exact no this
  · obtain ⟨u, r, q1, _⟩ := vars y vv e1
    exact ⟨u, q1 e2, r⟩
  · obtain ⟨u, r, _, q2⟩ := vars y vv e1
    obtain ⟨c, hc, _⟩ := I.fc y e2
    refine ⟨c, u, hc, ?_, r⟩
    have := x.cell _ c hc
    rw [q2 (by rw [e2]; simp)] at this
    exact this
section
variable (prog w hb)
noncomputable def StK (n : Nat) (sc : Scope) (ss : List Stmt) (m : Rho → Option PyData) : Prop :=
  ∀ ⦃A : Around⦄ ⦃Hz : List Addr⦄ ⦃env : Env⦄ ⦃s₀ : Shared⦄ ⦃C : List Addr⦄ ⦃ρ : Rho⦄ ⦃O : List (String × List Addr)⦄ ⦃s : Shared⦄ ⦃y : PyData⦄ ⦃Q : Flow → Shared → Prop⦄ ⦃E : Value → Shared → Prop⦄,
    env.scope = sc → RoomF A n → InS prog w Hz hb s₀ [] env C ρ O s → m ρ = some y →
    (∀ u as O' ρ' s', InS prog w Hz hb s₀ [] env C ρ' O' s' → Step s.heap s'.heap (WW env C O) (WW env C O') → RD prog w Hz s'.heap u y as → wf y = true → (∀ a ∈ as, s₀.heap.get? a = none) → Q (.ret u) s') → wpAny (model prog w) A (execs ss env) Q E s
noncomputable def FnH (n : Nat) (f : Addr) (m : List PyData → Option PyData) : Prop :=
  ∀ ⦃A : Around⦄ ⦃Hz : List Addr⦄ ⦃s : Shared⦄ ⦃u₀ : Value⦄ ⦃us : List Value⦄ ⦃x₀ : PyData⦄ ⦃xs : List PyData⦄ ⦃as₀ as : List Addr⦄ ⦃y : PyData⦄ ⦃Q : Value → Shared → Prop⦄ ⦃E : Value → Shared → Prop⦄,
    Room A n → Base prog Hz hb s.heap → RD prog w Hz s.heap u₀ x₀ as₀ → RDs prog w Hz s.heap us xs as → wfs (x₀ :: xs) = true → m (x₀ :: xs) = some y →
    (∀ u as' s', Keeps s s' → RD prog w Hz s'.heap u y as' → wf y = true → (∀ a ∈ as', a ∈ as ∨ s.heap.get? a = none) → Q u s') → wpAny (model prog w) A (call (.ref f) (u₀ :: us)) Q E s
end
noncomputable def thenK (m : Rho → Option PyData) : Out → Option PyData
  | .next ρ => m ρ
  | _ => none
theorem StK.cons {st : Stmt} {rest : List Stmt} {m : Rho → Option Out} {m' : Rho → Option PyData} (h : S1 prog w hb n sc st m) (h' : StK prog w hb n sc rest m') : StK prog w hb n sc (st :: rest) (fun ρ => (m ρ).bind (thenK m')) := by
  intro A Hz env s₀ C ρ O s y Q E hs hA I
  refine bindI fun o ho hm hQ => ?_
  induction o with
  | next ρ' => exact wpAny_execs_cons (h hs hA I ho fun O' s' I' t => h' hs hA I' hm fun u as O'' ρ'' s'' J t' => hQ u as O'' ρ'' s'' J (t.trans t'))
  | brk ρ' => exact no hm
  | cont ρ' => exact no hm
  | ret x => exact no hm
  | retT x ρ' => exact no hm
noncomputable def fnH (ps : List String) (m : Rho → Option PyData) (xs : List PyData) : Option PyData := if xs.length = ps.length then m (rhoH ps xs) else none
theorem FnH.def {f : Addr} {p₀ : String} {ps : List String} {body : List Stmt} {m : Rho → Option PyData} (D : DefOk hb f sc (p₀ :: ps) body) (h : StK prog w hb n sc body m) : FnH prog w hb (n + 1) f (fnH (p₀ :: ps) m) := by
  intro A Hz s u₀ us x₀ xs as₀ as y Q E hA b rd₀ rd hw hm hQ
  obtain ⟨fo, fd, args, ho, hd, hp, hnm, hbd, hsc, hcl, hdf, hgl, hbu, hcr⟩ := D.there
  unfold fnH at hm
  split at hm
  · rename_i hlen
    have hps : args.length = (p₀ :: ps).length := by simpa using congrArg List.length hnm
    have hul : args.length = (u₀ :: us).length := by rw [hps, List.length_cons (a := u₀), rd.length, ← hlen]; rfl
    have hnames : (args.map (·.arg)).Nodup := by
      rw [hnm]
      rw [List.Nodup, List.pairwise_map]
      exact D.names.imp fun h e => h (ofString_inj e)
    refine wpAny_call (codeAny_call_function (fd := fd) (body := body) (by have := hA.depth; lia) (b.grow _ _ ho) hd (by rw [hsc]; exact D.co) (by rw [hsc]; exact D.gen) hbd (hcr.keeps b.grow) ?_)
    rw [bind_plain hp hdf hul hnames, hnm, hsc, hgl, hcl, hbu]
    refine wpAny_pure (wpAny_newFunctionEnv_cells D.kind (fun z hz => ?_) fun env he s' x => ?_)
    · have := (List.of_mem_zip hz).1
      obtain ⟨p, hp', e⟩ := List.mem_map.mp this
      rw [← e]
      refine (isVar_kinds (D.vars p hp')).imp id fun q => ⟨q, cells_some _ _ _ (.inl q)⟩
    · have e1 : env.scope = sc := by rw [he]; rfl
      have e2 : env.globals = mainGlobals := by rw [he]; rfl
      have e3 : env.builtins = builtinsNs := by rw [he]; rfl
      have e4 : env.cells = cellsFrom (env.locals + 1) sc.names [] := by rw [he]; rfl
      have I := InS.startD (w := w) b e1 D.kind e2 e3 e4 D.once D.names rd₀ rd hw x
      refine ⟨I.base.nolimit, codeAny_func ?_⟩
      have pe : PlainEnv env := ⟨by rw [e1]; exact D.gen, by rw [e1]; exact D.co, e3, e2⟩
      have keep := x.toInCall.keep
      have hW : ∀ a ∈ WW env (env.cells.map (·.2)) [], s.heap.get? a = none := fun a ha => ((InS.start (w := w) b e1 D.kind e2 e3 e4 D.once D.names (.cons rd₀ rd) hw x).wfresh a ha).2 fun q => nomatch q
      refine h e1 (hA.deeper pe) I hm fun u as' O' ρ' s'' J t ru cu fr => ?_
      refine hQ u as' s'' ?_ ru cu fun a ha => ?_
      · obtain ⟨h', tk, e⟩ := J.same
        refine ⟨h', tk, e, fun c o ec => ?_⟩
        have := t.keep c o (keep c o ec) fun q => by rw [hW c q] at ec; exact no ec
        rw [e] at this; exact this
      · have := fr a ha
        rw [hideH_get] at this
        split at this
        · rename_i q; exact .inl q
        · exact .inr this
  · exact no hm
noncomputable def DefH (prog : Program) (w : World) (hb : Heap) (n : Nat) (x : String) (m : List PyData → Option PyData) : Prop :=
  ∃ a o fd, GName hb x (.ref a) ∧ hb.get? a = some o ∧ o.data = .func fd ∧ FnH prog w hb n a m
theorem DefH.of {x p₀ : String} {ps : List String} {body : List Stmt} {m : Rho → Option PyData} (D : DefAt hb x sc (p₀ :: ps) body) (h : StK prog w hb n sc body m) : DefH prog w hb (n + 1) x (fnH (p₀ :: ps) m) := by
  obtain ⟨a, g, D⟩ := D
  obtain ⟨fo, fd, args, ho, hd, _⟩ := D.there
  exact ⟨a, fo, fd, g, ho, hd, FnH.def D h⟩
noncomputable def callH (m : List PyData → Option PyData) (vs : List V) : Option V := match vs with
  | v :: vs => if flsOf vs = .d then (m (v.x :: vs.map (·.x))).map fun y => ⟨y, .d⟩ else none
  | [] => none
theorem Ev.defH {x : String} {k : Nat} {es : List Expr} {np pos : Pos} {ms : Rho → Option (List V)} {m : List PyData → Option PyData} (h : DefH prog w hb k x m) (hes : Evs prog w hb n sc es ms) (hx : isGlob sc x = true) (hk : k ≤ n)
    (hstar : ∀ env : Env, (backTo pos (starEach es env)).any (·.1) = false) :
    Ev prog w hb n sc (.Call (.Name (Str.ofString x) np) es [] pos) (fun ρ => (ms ρ).bind (callH m)) := by
  obtain ⟨a, o, fd, g, ho, hd, hf⟩ := h
  intro A Hz env s₀ X C ρ O s v Q E hs hA I
  refine bindI fun vs hvs hm hQ => ?_
  show wpAny _ _ (eval (.Name (Str.ofString x) np) env >>= fun f => callWith pos f [] (backTo pos (starEach es env)) []) _ _ s
  refine wpAny_bind (eval_glob I (by rw [hs]; exact hx) g (callWith_ok (.inr (.inr ⟨a, o, fd, rfl, ho, hd⟩)) (hstar env) (hes hs hA I hvs fun us s₁ k₁ r₁ => ⟨(I.grow k₁).base.grow, ?_⟩)))
  have I₁ := I.grow k₁
  induction r₁ with
  | nil => exact no hm
  | @cons u₀ v₀ us vs r₀ r₁ =>
    unfold callH at hm
    dsimp only at hm
    split at hm
    · rename_i hfl
      induction mapE hm with | mk y hy => ?_
      obtain ⟨as₀, rd₀, c₀, _⟩ := r₀
      obtain ⟨as, rd, c, fo⟩ := r₁.rds
      rw [hfl] at fo
      refine hf (hA.toRoom.mono hk) I₁.base rd₀ rd (by simp only [wfs, c₀, c, Bool.and_true]) hy fun u as' s' k ru cu fr => hQ u s' (keeps_trans k₁ k) ⟨as', ru, cu, fun b hb' => ?_⟩
      rcases fr b hb' with q | q
      · exact fo b q
      · exact I₁.fresh q
    · exact no hm
end

section
open PySem PySem.Calls PySem.W PySem.Spec
structure ErrK (K : Frag) (D : Addr) : Prop extends GetK K D where
  cl : (clsIn K D).isSome = true
  ca : findIn K (.ref D) "__class__" = some (some (.builtin "object.__class__"))
  cg : specialIn K (.builtin "object.__class__") "__get__" = some (some (.builtin "getset_descriptor.__get__"))
  ct : takesIn K (.builtin "object.__class__") = some true
  ob : mroIn K D (.type "object") = some true
section
variable {prog : Program} {w : World} {A : Around} {E : Value → Shared → Prop} {s : Shared} {K : Frag} {e C D : Addr} {oe : Obj} {od : Option Obj}
theorem looks_isType (X : K.In s.heap) {M : Model} (h : (clsIn K C).isSome = true) : Looks M s.heap (isType (.ref C)) true := by
  unfold clsIn at h
  split at h
  · rename_i c' d' cd' sl' ho
    intro A' Q' E' s' k q
    unfold isType loadHead
    exact wpAny_bind (wpAny_loadPart (k _ _ (X _ _ ho)) (wpAny_pure q))
  · cases h
theorem err_class {Q : Option Value → Shared → Prop} (X : K.In s.heap) (I : InstAt s.heap e oe D od) (EK : ErrK K D) (h : Q (some (.ref D)) { s with toks := s.toks + 1 }) : wpAny (model prog w) A (getAttr? (.ref e) "__class__") Q E s := by
  have hf : findObj K D od "__class__" = some (.bind (.builtin "getset_descriptor.__get__") (.builtin "object.__class__")) := by
    obtain ⟨cd, hc⟩ := Option.isSome_iff_exists.mp EK.cl
    unfold findObj
    rw [hc, Option.bind_some, EK.ca, Option.bind_some]
    simp [EK.cg, EK.ct]
  unfold getAttr? getAttrBy?
  refine wpAny_bind (wpAny_mkText (wpAny_bind (wpAny_attempt (exc_by (s := { s with toks := s.toks + 1 }) X I EK.toGetK ?_))))
  obtain ⟨hh, g, d, t, os⟩ := s
  have L0 := I.type (M := model prog w)
  have L2 := looks_find (M := model prog w) X I hf
  refine wpAny_bind (wpAny_pure (wpAny_bind (wpAny_pure (wpAny_bind (L0.at (wpAny_bind (L2.at ?_)))))))
  show wpAny _ _ (holding [Value.builtin "object.__class__"] (call (.builtin "getset_descriptor.__get__") [.builtin "object.__class__", .ref e, .ref D]) >>= ret) _ _ _
  refine wpAny_bind (wpAny_holding (wpAny_call (class_get (ox := oe) (od := od) X I EK.ob (wpAny_pure ?_))))
  exact handed_on rfl (wpAny_pure h)
theorem inst_nested {c : Value} {b : Bool} {dep : Int} {tk : Tok} {Q : Fin → Shared → Prop} (X : K.In s.heap) (I : InstAt s.heap e oe D od) (EK : ErrK K D) (hty : Looks (model prog w) s.heap (typeOf c) (.type "type")) (his : Looks (model prog w) s.heap (isType c) true)
    (hne : (Value.ref D == c) = true → b = true) (hsub : Looks (model prog w) s.heap (isSubtype (.ref D) c) b) (h : ∀ tk, Q (.done (.ret (.bool b))) { s with toks := tk }) :
    wpAny (model prog w) A (Builtin.«isinstance.nested» ⟨[.ref e, c, .int dep tk], []⟩) Q E s := by
  have hisD := looks_isType (M := model prog w) X EK.cl
  obtain ⟨h0, g, d, tt, os⟩ := s
  have L0 := I.type (M := model prog w)
  have LI : Looks (model prog w) h0 (isInstance (.ref e) c) b := L0.andThen hsub
  unfold Builtin.«isinstance.nested»
  refine wpAny_bind (L0.at ?_)
  by_cases q : (Value.ref D == c) = true
  · rw [if_pos q]
    have := hne q
    subst this
    exact wpAny_bind (wpAny_rule (wpAny_bind (wpAny_pure (wpAny_pure (h tt)))))
  rw [if_neg q]
  refine wpAny_bind (hty.at ?_)
  rw [if_pos (by decide)]
  refine wpAny_bind ?_
  show wpAny _ _ (isType c >>= _) _ _ _
  refine wpAny_bind (his.at ?_)
  simp only [Bool.not_true, Bool.false_eq_true, if_false]
  refine wpAny_bind (LI.at ?_)
  cases b with
  | true =>
    simp only [if_true]
    exact wpAny_pure (wpAny_pure (h tt))
  | false =>
    simp only [Bool.false_eq_true, if_false]
    refine wpAny_bind (err_class X I EK ?_)
    refine wpAny_bind (hisD.at ?_)
    simp only [Bool.not_true, Bool.false_eq_true, if_false]
    refine wpAny_bind (wpAny_rule ?_)
    refine hsub.at ?_
    exact wpAny_pure (h _)
theorem call_isof {c : Value} {b : Bool} {Q : Value → Shared → Prop} (X : K.In s.heap) (I : InstAt s.heap e oe D od) (EK : ErrK K D) (hty : ∀ (M : Model) h', K.In h' → Looks M h' (typeOf c) (.type "type")) (his : ∀ (M : Model) h', K.In h' → Looks M h' (isType c) true)
    (hne : (Value.ref D == c) = true → b = true) (hsub : ∀ (M : Model) h', K.In h' → Looks M h' (isSubtype (.ref D) c) b) (h : ∀ tk, Q (.bool b) { s with toks := tk }) : wpAny (model prog w) A (call (.builtin "isinstance") [.ref e, c]) Q E s :=
  call_isinstance (S := fun _ R s => (K.In s.heap ∧ InstAt s.heap e oe D od) ∧ ∀ tk, R (.ok (.ret (.bool b))) { s with toks := tk })
    (fun _ _ _ _ _ hs => isinstance_outer (inst_nested hs.1.1 hs.1.2 EK (hty _ _ hs.1.1) (his _ _ hs.1.1) hne (hsub _ _ hs.1.1) hs.2) (by intro q; cases q)) ⟨⟨X, I⟩, h⟩
end
end

section
open PySem PySem.Calls PySem.W PySem.Spec
theorem Head.grow {base h h' : Heap} {e : Addr} {o : Option Value} (x : Head base h e o) (k : Grow h h') : Head base h' e o := by
  induction x with
  | none => exact .none
  | «at» T oT ts h1 h2 h3 h4 h5 => exact .at T oT ts h1 h2 (k _ _ h3) h4 h5
theorem ExcO.grow {base h h' : Heap} {e : Addr} {c : Value} {x : PyData} (a : ExcO base h e c x) (k : Grow h h') : ExcO base h' e c x := by
  obtain ⟨oe, vs, h1, h2, h3, h4, h5⟩ := a
  exact ⟨oe, vs, k _ _ h1, h2, h3, h4.grow k, h5.loose (Loose.of_grow k)⟩
theorem Raised.grow {base h h' : Heap} {l : List Env} {e : Addr} {c : Value} {x : PyData} (a : Raised base l e c x h) (k : Grow h h') : Raised base l e c x h' :=
  ⟨a.new, fun b o q => k _ _ (a.stays b o q), (Loose.of_grow k).frames a.fr, a.obj.grow k⟩
theorem AtV.rd {prog : Program} {w : World} {Hz : List Addr} {h : Heap} {u : Value} {x : PyData} (a : AtV u x) : RD prog w Hz h u x [] := by
  cases a with
  | none => exact .none
  | int i t => exact .int i t
theorem AtV.wf {u : Value} {x : PyData} (a : AtV u x) : wf x = true := by cases a <;> rfl
structure Su (hb : Heap) (D : Addr) (x : PyData) (env : Env) (er : Addr) (h : Heap) : Prop where
  kind : env.scope.kind = .function
  glob : env.globals = mainGlobals
  bult : env.builtins = builtinsNs
  loc : env.kindOf (Str.ofString "error") = some .local
  gr : Grow hb h
  ns : ∃ m, h.Ns env.locals m ∧ m (Str.ofString "error") = some (.ref er)
  exc : ∃ base, Raised base [] er (.ref D) x h
theorem Su.grow {hb : Heap} {D : Addr} {x : PyData} {env : Env} {er : Addr} {h h' : Heap} (a : Su hb D x env er h) (k : Grow h h') : Su hb D x env er h' :=
  ⟨a.kind, a.glob, a.bult, a.loc, a.gr.trans k, let ⟨m, n, e⟩ := a.ns; ⟨m, n.keeps k, e⟩, let ⟨b, r⟩ := a.exc; ⟨b, r.grow k⟩⟩
section
variable (prog : Program) (w : World) (hb : Heap)
noncomputable def Er (sc : Scope) (e : Expr) (m : Addr → PyData → Option PyData) : Prop :=
  ∀ ⦃A : Around⦄ ⦃env : Env⦄ ⦃D er : Addr⦄ ⦃x : PyData⦄ ⦃s : Shared⦄ ⦃y : PyData⦄ ⦃Q : Value → Shared → Prop⦄ ⦃E : Value → Shared → Prop⦄, env.scope = sc → Su hb D x env er s.heap → m D x = some y →
    (∀ u s', Keeps s s' → RD prog w [] s'.heap u y [] → wf y = true → Q u s') → wpAny (model prog w) A (eval e env) Q E s
noncomputable def ErS (sc : Scope) (ss : List Stmt) (m : Addr → PyData → Option PyData) : Prop :=
  ∀ ⦃A : Around⦄ ⦃env : Env⦄ ⦃D er : Addr⦄ ⦃x : PyData⦄ ⦃s : Shared⦄ ⦃y : PyData⦄ ⦃Q : Flow → Shared → Prop⦄ ⦃E : Value → Shared → Prop⦄, env.scope = sc → Su hb D x env er s.heap → m D x = some y →
    (∀ u s', Keeps s s' → RD prog w [] s'.heap u y [] → wf y = true → Q (.ret u) s') → wpAny (model prog w) A (execs ss env) Q E s
end
section
variable {prog : Program} {w : World} {hb : Heap} {sc : Scope}
theorem Er.str {x : Str} {k : Nat} {pos : Pos} (hx : wf (.str x) = true) : Er prog w hb sc (.Constant (.str x) k pos) (fun _ _ => some (.str x)) := by
  intro A env D er y s z Q E hs U hm hQ
  (have e := si hm; subst e; clear hm)
  exact wpAny_Constant_str (hQ _ _ (keeps_toks s _) (.str x _) hx)
theorem eval_err {A : Around} {env : Env} {D er : Addr} {x : PyData} {s : Shared} {Q : Value → Shared → Prop} {E : Value → Shared → Prop} {p : Pos} (U : Su hb D x env er s.heap) (h : Q (.ref er) s) : wpAny (model prog w) A (eval (.Name (Str.ofString "error") p) env) Q E s := by
  obtain ⟨m, hn, hm⟩ := U.ns
  exact wpAny_Name (wpAny_loadName_local U.kind U.loc hn hm h) (by decide)
theorem Er.at {K : Frag} {P : Addr} {p pos : Pos} (X : K.In hb) (he : AttrForm (.Name (Str.ofString "error") p) (Str.ofString "at") pos) : Er prog w hb sc (.Attribute (.Name (Str.ofString "error") p) (Str.ofString "at") pos) (fun D x => open Classical in if ClsK K D P ∧ ErrK K D then some x else none) := by
  intro A env D er y s z Q E hs U hm hQ
  dsimp only at hm
  split at hm
  · rename_i hc
    (have e := si hm; subst e; clear hm)
    refine PyProof.Rows.Attribute_any_ (eval_err U ?_) (he env)
    obtain ⟨b, R⟩ := U.exc
    exact get_at (X.keeps U.gr) hc.1 hc.2.toGetK R fun u a => hQ u _ (keeps_toks s _) a.rd a.wf
  · exact no hm
theorem Er.pair {a b : Expr} {k : Nat} {pos : Pos} {ma mb : Addr → PyData → Option PyData} (ha : Er prog w hb sc a ma) (hb' : Er prog w hb sc b mb) (h1 : ∀ env, starEach [a, b] env = (false, eval a env) :: starEach [b] env) (h2 : ∀ env, starEach [b] env = (false, eval b env) :: starEach [] env) :
    Er prog w hb sc (.Tuple [a, b] k pos) (fun D x => (ma D x).bind fun y => (mb D x).map fun z => .tuple [y, z]) := by
  intro A env D er y s z Q E hs U hm hQ
  obtain ⟨y1, e1, hm⟩ := bindE hm
  induction mapE hm with | mk y2 e2 => ?_
  refine wpAny_Tuple (wpAny_items_cons (ha hs U e1 fun u1 s1 k1 r1 w1 => wpAny_items_cons (hb' hs (U.grow (keeps_grow k1)) e2 fun u2 s2 k2 r2 w2 => wpAny_items_nil ⟨show 2 ≤ sizeLine by decide, ?_⟩) (h2 env)) (h1 env))
  refine hQ _ _ (keeps_trans k1 (keeps_trans k2 (keeps_push _ _))) ?_ (wf_tuple.mpr ⟨show 2 ≤ sizeLine by decide, by simp only [wfs, w1, w2, Bool.and_self]⟩)
  have g := keeps_grow (keeps_push s2 { cls := .type "tuple", data := .seq #[u1, u2] })
  exact .tuple (vs := [u1, u2]) (n := 0) (Heap.get?_push_size _ rfl) (fun q => nomatch q) (.cons (as := []) (bs := []) ((r1.grow (keeps_grow k2)).grow g) (.cons (as := []) (bs := []) (r2.grow g) .nil))
theorem Er.isC {K : Frag} {B : Addr} {x : String} {np p tp pos : Pos} {f : Addr → Option Bool} (X : K.In hb) (hx : isGlob sc "isinstance" = true) (hg : GName hb "isinstance" (.builtin "isinstance")) (hx' : isGlob sc x = true) (hg' : GName hb x (.ref B))
    (hB : (clsIn K B).isSome = true) (hT : typeIn K (.ref B) = some (.type "type")) (hf : ∀ D b, f D = some b → ErrK K D ∧ subIn K (.ref D) (.ref B) = some b ∧ (D = B → b = true))
    (he : ∀ env, starEach [.Name (Str.ofString "error") p, .Name (Str.ofString x) tp] env = [(false, eval (.Name (Str.ofString "error") p) env), (false, eval (.Name (Str.ofString x) tp) env)]) :
    Er prog w hb sc (.Call (.Name (Str.ofString "isinstance") np) [.Name (Str.ofString "error") p, .Name (Str.ofString x) tp] [] pos) (fun D _ => (f D).map .bool) := by
  intro A env D er y s z Q E hs U hm hQ
  induction mapE hm with | mk b hb' => ?_
  obtain ⟨EK, hsub, hne⟩ := hf D b hb'
  show wpAny _ _ (eval (.Name (Str.ofString "isinstance") np) env >>= fun f => callWith pos f [] (backTo pos (starEach [.Name (Str.ofString "error") p, .Name (Str.ofString x) tp] env)) []) _ _ s
  refine wpAny_bind (eval_globR U.kind U.glob U.bult U.gr (by rw [hs]; exact hx) hg ?_)
  rw [he]
  refine callWith_builtin rfl (evalArgs_plain (spliced_cons (eval_err U (spliced_cons (eval_globR U.kind U.glob U.bult U.gr (by rw [hs]; exact hx') hg' (spliced_nil ?_))))))
  obtain ⟨bs, R⟩ := U.exc
  obtain ⟨_, _, _, oe, vs, h1, hcls, hv, _, ho⟩ := R
  generalize hq : oe.dict = dx at ho
  obtain ⟨Dd, m, u, ⟨o, es, ep, hD, _⟩, _⟩ := ho
  have I : InstAt s.heap er oe D (some o) := ⟨h1, hcls, by unfold notCls; rw [hv], by rw [hq]; exact hD⟩
  refine call_isof (X.keeps U.gr) I EK (fun _ h' X' => looks_typeIn X' hT) (fun _ h' X' => looks_isType (s := ⟨h', s.gens, s.drawn, s.toks, s.os⟩) X' hB) (fun q => hne (Value.ref.inj (beq_iff_eq.mp q))) (fun _ h' X' => looks_subIn X' hsub) fun tk => hQ _ _ (keeps_toks s _) (.bool b) rfl
theorem Er.isT {K : Frag} {T : String} {np p tp pos : Pos} (X : K.In hb) (hx : isGlob sc "isinstance" = true) (hg : GName hb "isinstance" (.builtin "isinstance")) (hx' : isGlob sc T = true) (hg' : GName hb T (.type T)) (hT : typeOf (.type T) = pure (.type "type"))
    (he : ∀ env, starEach [.Name (Str.ofString "error") p, .Name (Str.ofString T) tp] env = [(false, eval (.Name (Str.ofString "error") p) env), (false, eval (.Name (Str.ofString T) tp) env)]) :
    Er prog w hb sc (.Call (.Name (Str.ofString "isinstance") np) [.Name (Str.ofString "error") p, .Name (Str.ofString T) tp] [] pos) (fun D _ => open Classical in if ErrK K D ∧ subIn K (.ref D) (.type T) = some true then some (.bool true) else none) := by
  intro A env D er y s z Q E hs U hm hQ
  dsimp only at hm
  split at hm
  · rename_i hc
    obtain ⟨EK, hsub⟩ := hc
    (have e := si hm; subst e; clear hm)
    show wpAny _ _ (eval (.Name (Str.ofString "isinstance") np) env >>= fun f => callWith pos f [] (backTo pos (starEach [.Name (Str.ofString "error") p, .Name (Str.ofString T) tp] env)) []) _ _ s
    refine wpAny_bind (eval_globR U.kind U.glob U.bult U.gr (by rw [hs]; exact hx) hg ?_)
    rw [he]
    refine callWith_builtin rfl (evalArgs_plain (spliced_cons (eval_err U (spliced_cons (eval_globR U.kind U.glob U.bult U.gr (by rw [hs]; exact hx') hg' (spliced_nil ?_))))))
    obtain ⟨bs, R⟩ := U.exc
    obtain ⟨_, _, _, oe, vs, h1, hcls, hv, _, ho⟩ := R
    generalize hq : oe.dict = dx at ho
    obtain ⟨Dd, m, u, ⟨o, es, ep, hD, _⟩, _⟩ := ho
    have I : InstAt s.heap er oe D (some o) := ⟨h1, hcls, by unfold notCls; rw [hv], by rw [hq]; exact hD⟩
    exact call_isof (X.keeps U.gr) I EK (fun _ h' X' => Looks.of_pure hT) (fun _ h' X' => Looks.of_pure rfl) (fun _ => rfl) (fun _ h' X' => looks_subIn X' hsub) fun tk => hQ _ _ (keeps_toks s _) (.bool true) rfl
  · exact no hm
noncomputable def boolInt : PyData → Option PyData
  | .bool b => some (.int (if b then 1 else 0))
  | _ => none
theorem Er.int {e : Expr} {np pos : Pos} {m : Addr → PyData → Option PyData} (hx : isGlob sc "int" = true) (hg : GName hb "int" (.type "int")) (h : Er prog w hb sc e m) (he : ∀ env, starEach [e] env = (false, eval e env) :: starEach [] env)
    (hstar : ∀ env : Env, (backTo pos (starEach [e] env)).any (·.1) = false) : Er prog w hb sc (.Call (.Name (Str.ofString "int") np) [e] [] pos) (fun D x => (m D x).bind boolInt) := by
  intro A env D er y s z Q E hs U hm hQ
  obtain ⟨v, hv, hm⟩ := bindE hm
  show wpAny _ _ (eval (.Name (Str.ofString "int") np) env >>= fun f => callWith pos f [] (backTo pos (starEach [e] env)) []) _ _ s
  refine wpAny_bind (eval_globR U.kind U.glob U.bult U.gr (by rw [hs]; exact hx) hg (callWith_ok (hb := hb) (.inr (.inl ⟨_, rfl⟩)) (hstar env) (wpAny_items_cons (h hs U hv fun u s1 k1 r1 w1 => wpAny_items_nil ⟨U.gr.trans (keeps_grow k1), ?_⟩) (he env))))
  cases v with
  | bool b =>
    (have e := si hm; subst e; clear hm)
    cases r1
    exact call_int_bool (hQ _ _ (keeps_trans k1 (keeps_toks _ _)) (.int _ _) rfl)
  | _ => exact no hm
theorem Er.pick {a b : Str} {ka kb : Nat} {pa pb lp pos : Pos} {i : Expr} {m : Addr → PyData → Option PyData} (ha : wf (.str a) = true) (hb' : wf (.str b) = true) (h : Er prog w hb sc i m) (hs' : ∀ o j, ∃ ops, subscripted i false o j = operate ops (getItem o j)) :
    Er prog w hb sc (.Subscript (.List [.Constant (.str a) ka pa, .Constant (.str b) kb pb] lp) i pos) (fun D x => (m D x).bind fun j => aIdx (.list [.str a, .str b]) j) := by
  intro A env D er y s z Q E hs U hm hQ
  obtain ⟨j, hj, hm⟩ := bindE hm
  refine PyProof.Rows.Subscript_ (wpAny_List (wpAny_items_cons (wpAny_Constant_str (wpAny_items_cons (wpAny_Constant_str (wpAny_items_nil ⟨show 2 ≤ sizeLine by decide, ?_⟩))))))
  generalize hs1 : ({ s with toks := s.toks + 1 + 1, heap := s.heap.push { cls := .type "list", data := .seq #[Value.str a s.toks, Value.str b (s.toks + 1)] } } : Shared) = s1
  have hk : Keeps s s1 := by rw [← hs1]; exact ⟨_, _, rfl, Grow.push _ _⟩
  have hl : RD prog w [] s1.heap (.ref s.heap.objs.size) (.list [.str a, .str b]) [s.heap.objs.size] := by
    rw [← hs1]
    exact .list (vs := [Value.str a s.toks, Value.str b (s.toks + 1)]) (n := 0) (Heap.get?_push_size _ rfl) (.cons (as := []) (bs := []) (.str a _) (.cons (as := []) (bs := []) (.str b _) .nil))
  show wpAny _ _ (eval i env) _ _ s1
  refine h hs (U.grow (keeps_grow hk)) hj fun u s2 k2 r2 w2 => ?_
  have rl : Rep prog w [] ({} : Heap) [] s2.heap (.ref s.heap.objs.size) ⟨.list [.str a, .str b], .t⟩ := ⟨_, hl.grow (keeps_grow k2), wf_list.mpr ⟨show 2 ≤ sizeLine by decide, by simp only [wfs, ha, hb', Bool.and_self]⟩, trivial⟩
  have ri : Rep prog w [] ({} : Heap) [] s2.heap u ⟨j, .t⟩ := ⟨_, r2, w2, trivial⟩
  have fl : flat z = true := by
    have hm' : (intOf j).bind (fun k => seqAt [.str a, .str b] k) = some z := hm
    obtain ⟨k, _, hk⟩ := bindE hm'
    obtain ⟨_, _, i, _, hi⟩ := seqAt_lt hk
    have := List.mem_of_getElem? hi
    simp only [List.mem_cons, List.not_mem_nil, or_false] at this
    rcases this with rfl | rfl <;> rfl
  obtain ⟨g, T, id, hT, hl⟩ := getItem_ok (A := A) (E := E) (Q := Q) hm rl ri fun u s' k r => by
    obtain ⟨as, r1, r2', _⟩ := r
    have : as = [] := r1.flat_foot fl
    subst this
    exact hQ u s' (keeps_trans hk (keeps_trans k2 k)) r1 r2'
  obtain ⟨ops, e⟩ := hs' (.ref s.heap.objs.size) u
  exact PyProof.Rows.tail_any hT hl g e
theorem ErS.ret {e : Expr} {pos : Pos} {m : Addr → PyData → Option PyData} (h : Er prog w hb sc e m) : ErS prog w hb sc [.Return (some e) pos] m := by
  intro A env D er y s z Q E hs U hm hQ
  exact wpAny_execs_cons (wpAny_Return_some (h hs U hm fun u s' k r c => hQ u s' k r c))
theorem ErS.ifNot {t : Expr} {b rest : List Stmt} {np pos : Pos} {mt m : Addr → PyData → Option PyData} (h : Er prog w hb sc t mt) (he : ∀ env whole, isTrue t env whole = (do let v ← whole; standAt t.pos; holding [v] (truthy v))) (h' : ErS prog w hb sc rest m) :
    ErS prog w hb sc (.If (.UnaryOp .Not t np) b [] pos :: rest) (fun D x => (mt D x).bind fun c => match c with | .bool true => m D x | _ => none) := by
  intro A env D er y s z Q E hs U hm hQ
  obtain ⟨c, hc, hm⟩ := bindE hm
  split at hm
  · refine wpAny_execs_cons (wpAny_If (wpAny_isTrue_Not (wpAny_isTrue_value (h hs U hc fun u s1 k1 r1 w1 => ?_) (he _ _))))
    cases r1
    refine wpAny_truthy_bool ?_
    show wpAny _ _ (execs [] env) _ _ _
    refine wpAny_execs_nil (h' hs (U.grow (keeps_grow k1)) hm fun u s2 k2 r2 w2 => hQ u s2 (keeps_trans k1 k2) r2 w2)
  · exact no hm
end
end

section
open PySem PySem.Calls PySem.W PySem.Spec
section
variable {M : Model} {A : Around} {E : Value → Shared → Prop} {s : Shared} {base : Heap} {l : List Env} {e : Addr} {c : Value} {x : PyData}
theorem still {Q : Unit → Shared → Prop} (R : Raised base l e c x s.heap) (h : ∀ h', Raised base l e c x h' → Loose s.heap h' → Q () { s with heap := h' }) : wpAny M A (setFlight (.ref e) none) Q E s := by
  have R₀ := R
  obtain ⟨new, stays, fr, oe, vs, he, hc, hv, hh, ho⟩ := R
  unfold setFlight
  generalize hq : vs[1]? = q at hh
  cases hh with
  | none =>
    refine wpAny_bind (wpAny_field he hv hq ?_)
    rw [if_neg (by decide)]
    exact wpAny_pure (h s.heap R₀ (Loose.refl _))
  | «at» T oT ts h1 h2 h3 h4 h5 =>
    refine wpAny_bind (wpAny_field he hv hq ?_)
    rw [if_pos (show (Value.ref T != Value.none) = true from by simp)]
    have hsz := (Array.getElem?_eq_some_iff.mp h5).1
    refine wpAny_setField h3 h4 hsz ?_
    have lo := Loose.field h3 h4 (·.setIfInBounds 3 ((none : Option Addr).elim Value.none fun f => rawInt f))
    refine h _ ⟨new, fun b o q => (Heap.get?_update_other _ _ fun z => by rw [← z, h1] at q; cases q).trans (stays b o q), lo.frames fr, ExcO.mk oe vs ((Heap.get?_update_other _ _ h2).trans he) hc hv ?_ (ho.loose lo)⟩ lo
    rw [hq]
    exact .at T _ _ h1 h2 (Heap.get?_update_self _ h3 (Obj.isFreed_of_fields (Obj.data_mapFields h4 _))) (Obj.data_mapFields h4 _) (by simp [hsz])
end
structure Caught (base : Heap) (outer : List Env) (env : Env) (s₀ : Shared) (c : Addr) (x : PyData) (e : Addr) (s : Shared) : Prop where
  same : ∃ h tk, s = { s₀ with heap := h, toks := tk }
  R : Raised base (env :: outer) e (.ref c) x s.heap
  k : Loose s₀.heap s.heap
  ns : ∃ m, s.heap.Ns env.locals m
  apart : ∀ oe, s.heap.get? e = some oe → oe.dict ≠ some env.locals
structure Env1 (hb base : Heap) (s₀ : Shared) (env : Env) : Prop where
  kind : env.scope.kind = .function
  glob : env.globals = mainGlobals
  bult : env.builtins = builtinsNs
  loc : env.kindOf (Str.ofString "error") = some .local
  new : s₀.heap.get? env.locals = none
  newb : base.get? env.locals = none
  gb : Grow hb base
section
variable (prog : Program) (w : World)
noncomputable def FinS (base : Heap) (s₀ : Shared) (y : PyData) (Q : Flow → Shared → Prop) : Prop := ∀ u s', (∃ h tk, s' = { s₀ with heap := h, toks := tk }) → base.StaysIn s'.heap → Loose s₀.heap s'.heap → RD prog w [] s'.heap u y [] → wf y = true → Q (.ret u) s'
end
section
variable {prog : Program} {w : World} {hb : Heap} {sc : Scope} {base : Heap} {outer : List Env} {env : Env} {s₀ s : Shared} {c e : Addr} {x y : PyData} {A : Around} {E : Value → Shared → Prop}
theorem ns_data {h : Heap} {L a : Addr} {m : Str → Option Value} {o : Obj} {vs : Array Value} (hn : h.Ns L m) (ho : h.get? a = some o) (hd : o.data = .fields vs) : a ≠ L := fun q => by
  subst q
  obtain ⟨o', es, ep, h1, h2, _⟩ := hn
  rw [ho] at h1
  (have e := si h1; subst e; clear h1)
  rw [hd] at h2; cases h2
theorem caught_suite {b₀ : Stmt} {suite : List Stmt} {pos : Pos} {ms : Addr → PyData → Option PyData} {Q : Flow → Shared → Prop} {N : Value → Shared → Prop} {N' : Value → Shared → Prop} (V : Env1 hb base s₀ env) (hs : env.scope = sc) (hsu : ErS prog w hb sc (b₀ :: suite) ms) (Ct : Caught base outer env s₀ c x e s) (hm : ms c x = some y) (hQ : FinS prog w base s₀ y Q) :
    wpAny (model prog w) (A.mark (some (.ref e))) (setFlight (.ref e) none) (fun _ s₂ => wpAny (model prog w) (A.mark (some (.ref e))) (storeName env (Str.ofString "error") (.ref e)) (fun _ s₃ =>
      wpAny (model prog w) (A.mark (some (.ref e))) (execs (b₀ :: suite) env) (fun f s₄ => wpAny (model prog w) A (do bindName env (Str.ofString "error") .none; unbindBehindTheSuite env (Str.ofString "error") pos) (fun _ s₅ => Q f s₅) E s₄) N s₃) N' s₂) N' s := by
  obtain ⟨⟨h, tk, rfl⟩, R, k, ⟨m, ns⟩, apart⟩ := Ct
  have hp : (env.scope.kind == .class || (env.scope.kind == .module && env.locals != env.globals)) = false := by rw [V.kind]; rfl
  refine still R fun h₂ R₂ k₂ => wpAny_storeName_local V.loc (k₂.ns ns) (fun h₃ ns₃ sm₃ => ?_) hp
  have ns₂ : h₂.Ns env.locals m := k₂.ns ns
  have ap₂ : ∀ oe, h₂.get? e = some oe → oe.dict ≠ some env.locals := fun oe he => by
    obtain ⟨_, _, _, oe', _, he', _⟩ := R
    obtain ⟨o₂, e₂, _, d₂, _⟩ := k₂ _ _ he'
    rw [he] at e₂
    (have e := si e₂; subst e; clear e₂)
    rw [d₂]; exact apart oe' he'
  have stays₃ : base.StaysIn h₃ := fun b o q => (sm₃.2 b fun z => by rw [z, V.newb] at q; exact no q).trans (R₂.stays b o q)
  have loose₃ : Loose s₀.heap h₃ := fun b o q => by
    obtain ⟨o', e', r⟩ := (k.trans k₂) b o q
    exact ⟨o', (sm₃.2 b fun z => by rw [z, V.new] at q; exact no q).trans e', r⟩
  have R₃ : Raised base [] e (.ref c) x h₃ := by
    obtain ⟨new, _, _, oe, vs, he, hc, hv, hh, ho⟩ := R₂
    refine ⟨new, stays₃, trivial, .mk oe vs ((sm₃.2 e (ns_data ns₂ he hv)).trans he) hc hv ?_ ?_⟩
    · generalize hq : vs[1]? = q at hh
      cases hh with
      | none => exact .none
      | «at» T oT ts h1 h2 h3 h4 h5 => exact .at T oT ts h1 h2 ((sm₃.2 T (ns_data ns₂ h3 h4)).trans h3) h4 h5
    · have := ap₂ oe he
      generalize hq : oe.dict = q at ho this
      cases ho with
      | mk d md u g1 g2 g3 =>
        have hne : d ≠ env.locals := fun z => this (by rw [z])
        obtain ⟨o, es, ep, r1, r2⟩ := g1
        exact .mk d md u ⟨o, es, ep, (sm₃.2 d hne).trans r1, r2⟩ g2 g3
  have U : Su hb c x env e h₃ := ⟨V.kind, V.glob, V.bult, V.loc, fun b o q => stays₃ b o (V.gb b o q), ⟨_, ns₃, if_pos rfl⟩, ⟨base, R₃⟩⟩
  refine hsu hs U hm fun u s₄ k₄ r₄ w₄ => ?_
  obtain ⟨h₄, t₄, rfl, g₄⟩ := k₄
  have g₄ : Grow h₃ h₄ := g₄
  have ns₄ := ns₃.keeps g₄
  refine wpAny_nameGoes V.loc ns₄ hp fun h₅ m₅ ns₅ sm₅ => hQ u _ ⟨h₅, _, rfl⟩ (fun b o q => (sm₅.2 b fun z => by rw [z, V.newb] at q; exact no q).trans (g₄ _ _ (stays₃ b o q))) (fun b o q => ?_) (r₄.off (W := [env.locals]) (fun b o q hq => ?_) fun _ z => nomatch z) w₄
  · obtain ⟨o', e', r⟩ := loose₃ b o q
    exact ⟨o', (sm₅.2 b fun z => by rw [z, V.new] at q; exact no q).trans (g₄ _ _ e'), r⟩
  · refine (sm₅.2 b fun z => ?_).trans q
    rcases hq with hq | ⟨vs, kk, rfl⟩
    · exact hq (by rw [z]; exact List.mem_singleton.mpr rfl)
    · obtain ⟨o', es, ep, h1, h2, _⟩ := ns₄
      rw [z] at q
      have q : h₄.get? env.locals = _ := q
      rw [h1] at q
      (have e := si q; subst e; clear q)
      cases h2
end
section
variable (prog : Program) (w : World) (hb : Heap)
noncomputable def Hd (sc : Scope) (hs : List ExceptHandler) (m : Addr → PyData → Option PyData) : Prop :=
  ∀ ⦃A : Around⦄ ⦃env : Env⦄ ⦃s₀ s : Shared⦄ ⦃c e : Addr⦄ ⦃x y : PyData⦄ ⦃base : Heap⦄ ⦃outer : List Env⦄ ⦃Q : Flow → Shared → Prop⦄ ⦃E : Value → Shared → Prop⦄,
    env.scope = sc → Env1 hb base s₀ env → Caught base outer env s₀ c x e s → m c x = some y → FinS prog w base s₀ y Q → wpAny (model prog w) A (handleBy (.ref e) env hs) Q E s
end
section
variable {prog : Program} {w : World} {hb : Heap} {sc : Scope} {n : Nat}
theorem Hd.nil : Hd prog w hb sc [] (fun _ _ => none) := by
  intro A env s₀ s c e x y base outer Q E hs V Ct hm hQ
  exact no hm
theorem ClsE.grow {h h' : Heap} {C : Addr} {bm : List Value} (a : ClsE h C bm) (k : Grow h h') : ClsE h' C bm := by
  obtain ⟨nm, q, N, bs, hdct, sn, sub, ab, col, dd, k0, k1, k2, k3, k5, h⟩ := a
  exact ⟨nm, q, N, bs, hdct, sn, sub, ab, col, dd, k0, k1, k2, k3, k5, k _ _ h⟩
theorem Hd.cons {nm : String} {S : Addr} {bn : List Value} {p pos : Pos} {b₀ : Stmt} {suite : List Stmt} {rest : List ExceptHandler} {ms mr : Addr → PyData → Option PyData} (f : Addr → Option Bool) (hx : isGlob sc nm = true) (hg : GName hb nm (.ref S)) (hS : ClsE hb S bn) (hbase : bn.contains (.type "BaseException") = true)
    (hf : ∀ c b, f c = some b → ∃ bm, ClsE hb c bm ∧ (Value.ref c :: bm).contains (.ref S) = b) (hsu : ErS prog w hb sc (b₀ :: suite) ms) (hr : Hd prog w hb sc rest mr) :
    Hd prog w hb sc (.ExceptHandler (some (.Name (Str.ofString nm) p)) (some (Str.ofString "error")) (b₀ :: suite) pos :: rest) (fun c x => (f c).bind fun b => bif b then ms c x else mr c x) := by
  intro A env s₀ s c e x y base outer Q E hs V Ct hm hQ
  obtain ⟨b, hb', hm⟩ := bindE hm
  obtain ⟨bm, hC, hin⟩ := hf c b hb'
  have gr : Grow hb s.heap := fun b o q => Ct.R.stays b o (V.gb b o q)
  refine handle_as (C := c) (S := S) (bm := bm) hbase (eval_globR V.kind V.glob V.bult gr (by rw [hs]; exact hx) hg ⟨rfl, hC.grow gr, hS.grow gr, ?_, ?_⟩)
  · obtain ⟨_, _, _, oe, vs, he, hc, _⟩ := Ct.R
    exact ⟨oe, he, hc⟩
  · rw [hin]
    cases b with
    | true =>
      rw [if_pos rfl]
      exact caught_suite V hs hsu Ct hm hQ
    | false =>
      rw [if_neg (by decide)]
      exact hr hs V Ct hm hQ
section
variable {A : Around} {env : Env} {s₀ s : Shared} {C : List Addr} {ρ : Rho} {O : List (String × List Addr)} {base : Heap} {outer : List Env} {Q : Value → Shared → Prop} {E : Value → Shared → Prop} {Hz : List Addr}
theorem callX2 {x : String} {k : Nat} {es : List Expr} {np pos : Pos} {ms : Rho → Option (List V)} {m : List PyData → Option (PyData ⊕ Addr × PyData)} {vs : List V} {y : PyData ⊕ Addr × PyData} (h : DefX prog w hb k x m) (hes : Evs prog w hb n sc es ms) (hx : isGlob sc x = true) (hk : k ≤ n)
    (hstar : ∀ env : Env, (backTo pos (starEach es env)).any (·.1) = false) (hs : env.scope = sc) (hA : RoomF A n) (U : Up base s₀ A env outer) (I : InF prog w Hz hb s₀ [] env C ρ O s) (hv : ms ρ = some vs) (hm : m (vs.map (·.x)) = some y)
    (hQ : match y with
      | .inl y => ∀ u s', Keeps s s' → Rep prog w Hz s₀.heap (WW env C O) s'.heap u ⟨y, .d⟩ → Q u s'
      | .inr z => ∀ s₁ e s', Keeps s s₁ → Fly base (env :: outer) z.1 z.2 s₁ e s' → E (.ref e) s') :
    wpAny (model prog w) A (eval (.Call (.Name (Str.ofString x) np) es [] pos) env) Q E s := by
  obtain ⟨a, o, fd, g, ho, hd, hf⟩ := h
  show wpAny _ _ (eval (.Name (Str.ofString x) np) env >>= fun f => callWith pos f [] (backTo pos (starEach es env)) []) _ _ s
  refine wpAny_bind (eval_glob I (by rw [hs]; exact hx) g (callWith_ok (.inr (.inr ⟨a, o, fd, rfl, ho, hd⟩)) (hstar env) (hes hs hA I hv fun us s₁ k₁ r₁ => ⟨(I.grow k₁).base.grow, ?_⟩)))
  have I₁ := I.grow k₁
  obtain ⟨as, rd, c, _⟩ := r₁.rds
  refine (hf.mono hk) hA.toRoom U.frs (U.stay I₁) (U.frames I₁) I₁.base rd c hm ?_
  induction y with
  | inl y => exact fun u bs s' k ru cu fr => hQ u s' (keeps_trans k₁ k) ⟨bs, ru, cu, fun a ha => I₁.fresh (fr a ha)⟩
  | inr z => exact fun e s' f => hQ s₁ e s' k₁ f
end
section
variable (prog w hb)
noncomputable def S1S (n : Nat) (sc : Scope) (st : Stmt) (m : Rho → Option PyData) : Prop :=
  ∀ ⦃A : Around⦄ ⦃env : Env⦄ ⦃s₀ : Shared⦄ ⦃C : List Addr⦄ ⦃ρ : Rho⦄ ⦃O : List (String × List Addr)⦄ ⦃s : Shared⦄ ⦃y : PyData⦄ ⦃base : Heap⦄ ⦃outer : List Env⦄ ⦃mb : Str → Option Value⦄ ⦃Q : Flow → Shared → Prop⦄ ⦃E : Value → Shared → Prop⦄,
    env.scope = sc → RoomF A n → Up base s₀ A env outer → Grow hb base → InS prog w [] hb s₀ [] env C ρ O s → s.heap.Ns env.locals mb → mb (Str.ofString "at") = none → m ρ = some y → FinS prog w base s₀ y Q → wpAny (model prog w) A (exec st env) Q E s
noncomputable def StS (n : Nat) (sc : Scope) (ss : List Stmt) (m : Rho → Option PyData) : Prop :=
  ∀ ⦃A : Around⦄ ⦃env : Env⦄ ⦃s₀ : Shared⦄ ⦃C : List Addr⦄ ⦃ρ : Rho⦄ ⦃O : List (String × List Addr)⦄ ⦃s : Shared⦄ ⦃y : PyData⦄ ⦃base : Heap⦄ ⦃outer : List Env⦄ ⦃mb : Str → Option Value⦄ ⦃Q : Flow → Shared → Prop⦄ ⦃E : Value → Shared → Prop⦄,
    env.scope = sc → RoomF A n → Up base s₀ A env outer → Grow hb base → InS prog w [] hb s₀ [] env C ρ O s → s.heap.Ns env.locals mb → mb (Str.ofString "at") = none → m ρ = some y → FinS prog w base s₀ y Q → wpAny (model prog w) A (execs ss env) Q E s
noncomputable def FnS (n : Nat) (f : Addr) (m : List PyData → Option PyData) : Prop :=
  ∀ ⦃A : Around⦄ ⦃s : Shared⦄ ⦃us : List Value⦄ ⦃xs : List PyData⦄ ⦃as : List Addr⦄ ⦃y : PyData⦄ ⦃base : Heap⦄ ⦃l : List Env⦄ ⦃Q : Value → Shared → Prop⦄ ⦃E : Value → Shared → Prop⦄,
    Room A n → A.frames = some l → base.StaysIn s.heap → s.heap.FunFrames base l → Grow hb base → Base prog [] hb s.heap → RDs prog w [] s.heap us xs as → wfs xs = true → m xs = some y →
    (∀ u s', (∃ h tk, s' = { s with heap := h, toks := tk }) → base.StaysIn s'.heap → Loose s.heap s'.heap → RD prog w [] s'.heap u y [] → wf y = true → Q u s') → wpAny (model prog w) A (call (.ref f) us) Q E s
end
theorem StS.last {st : Stmt} {m : Rho → Option PyData} (h : S1S prog w hb n sc st m) : StS prog w hb n sc [st] m := by
  intro A env s₀ C ρ O s y base outer mb Q E hs hA U gb I ns hat hm hQ
  exact wpAny_execs_cons (h hs hA U gb I ns hat hm fun u s' a b c d e => hQ u s' a b c d e)
theorem StS.if {t : Expr} {st : Stmt} {rest : List Stmt} {pos : Pos} {mt : Rho → Option Bool} {m m' : Rho → Option PyData} (ht : Tr prog w hb n sc t mt) (h : S1S prog w hb n sc st m) (h' : StS prog w hb n sc rest m') :
    StS prog w hb n sc (.If t [st] [] pos :: rest) (fun ρ => (mt ρ).bind fun c => bif c then m ρ else m' ρ) := by
  intro A env s₀ C ρ O s y base outer mb Q E hs hA U gb I ns hat hm hQ
  obtain ⟨c, hc, hm⟩ := bindE hm
  refine wpAny_execs_cons (wpAny_If (ht hs hA I.toInF hc fun s₁ k₁ => ?_))
  have ns₁ := ns.keeps (keeps_grow k₁)
  cases c with
  | true => exact wpAny_execs_cons (h hs hA U gb (I.grow k₁) ns₁ hat hm fun u s' a b c d e => hQ u s' a b c d e)
  | false => exact wpAny_execs_nil (h' hs hA U gb (I.grow k₁) ns₁ hat hm hQ)
noncomputable def tryOut (a : Str) (mh : Addr → PyData → Option PyData) : PyData ⊕ Addr × PyData → Option PyData
  | .inl y => if flat y = true then some (.tuple [.str a, y]) else none
  | .inr z => mh z.1 z.2
theorem S1S.try {x : String} {k : Nat} {es : List Expr} {a : Str} {ka kt : Nat} {np cp pa tp rp pos : Pos} {h₀ : ExceptHandler} {hs : List ExceptHandler} {ms : Rho → Option (List V)} {m : List PyData → Option (PyData ⊕ Addr × PyData)} {mh : Addr → PyData → Option PyData} (ha : wf (.str a) = true) (h : DefX prog w hb k x m) (hes : Evs prog w hb n sc es ms) (hx : isGlob sc x = true) (hk : k ≤ n) (hloc : sc.names.lookup (Str.ofString "error") = some .local)
    (hstar : ∀ env : Env, (backTo cp (starEach es env)).any (·.1) = false) (hh : Hd prog w hb sc (h₀ :: hs) mh) :
    S1S prog w hb n sc (.Try [.Return (some (.Tuple [.Constant (.str a) ka pa, .Call (.Name (Str.ofString x) np) es [] cp] kt tp)) rp] (h₀ :: hs) [] [] pos) (fun ρ => (ms ρ).bind fun vs => (m (vs.map (·.x))).bind (tryOut a mh)) := by
  intro A env s₀ C ρ O s y base outer mb Q E hs' hA U gb I ns hat hm hQ
  obtain ⟨vs, hv, hm⟩ := bindE hm
  obtain ⟨r, hr, hm⟩ := bindE hm
  refine wpAny_Try_except (wpAny_execs_cons (wpAny_Return_some (wpAny_Tuple (wpAny_items_cons (wpAny_Constant_str (wpAny_items_cons (callX2 h hes hx hk hstar hs' hA U (I.grow (keeps_toks s (s.toks + 1))).toInF hv hr ?_)))))))
  have wloc : s₀.heap.get? env.locals = none := (I.wfresh env.locals (List.mem_cons_self ..)).2 fun q => nomatch q
  induction r with
  | inl z =>
    intro u s₁ k₁ ru
    unfold tryOut at hm
    dsimp only at hm
    split at hm
    · rename_i hfl
      (have e := si hm; subst e; clear hm)
      refine wpAny_items_nil ⟨show 2 ≤ sizeLine by decide, ?_⟩
      obtain ⟨as, r1, r2, r3⟩ := ru
      have : as = [] := r1.flat_foot hfl
      subst this
      have k₂ := keeps_trans k₁ (keeps_push s₁ { cls := .type "tuple", data := .seq #[Value.str a s.toks, u] })
      have I₂ := I.grow (keeps_trans (keeps_toks s (s.toks + 1)) k₂)
      have g := keeps_grow (keeps_push s₁ { cls := .type "tuple", data := .seq #[Value.str a s.toks, u] })
      refine hQ _ _ I₂.same (U.stay I₂.toInF) (Loose.of_grow I₂.toInF.grows) (.tuple (vs := [Value.str a s.toks, u]) (n := 0) (Heap.get?_push_size _ rfl) (fun q => nomatch q) (.cons (as := []) (bs := []) (.str a _) (.cons (as := []) (bs := []) (r1.grow g) .nil))) ?_
      exact wf_tuple.mpr ⟨show 2 ≤ sizeLine by decide, by simp only [wfs, ha, r2, Bool.and_self]⟩
    · exact no hm
  | inr z =>
    rintro s₁ e s' k₁ ⟨h', tk, R, lo⟩
    have k₁ := keeps_trans (keeps_toks s (s.toks + 1)) k₁
    have I₁ := I.grow k₁
    have ns₁ := ns.keeps (keeps_grow k₁)
    have V : Env1 hb base s₀ env := ⟨I.kind, I.glob, I.bult, by unfold Env.kindOf; rw [hs']; exact hloc, wloc, by
      cases q : base.get? env.locals with
      | none => rfl
      | some o => have := U.stays _ _ q; rw [wloc] at this; exact no this, gb⟩
    refine note U.frs U.own R fun h₂ R₂ k₂ => hh hs' V ⟨?_, R₂, ?_, ⟨mb, k₂.ns (lo.ns ns₁)⟩, fun oe he q => ?_⟩ hm hQ
    · obtain ⟨h₁, t₁, e₁⟩ := I₁.same
      exact ⟨h₂, tk, by rw [e₁]⟩
    · exact ((Loose.of_grow I₁.toInF.grows).trans lo).trans k₂
    · have nm := k₂.ns (lo.ns ns₁)
      obtain ⟨_, _, _, oe', vs', he', _, _, _, ho⟩ := R₂
      have he : h₂.get? e = some oe := he
      rw [he] at he'
      (have e := si he'; subst e; clear he')
      rw [q] at ho
      cases ho with
      | mk d md u g1 g2 g3 =>
        have := g1.agree nm (Str.ofString "at")
        rw [hat, g2] at this
        exact no this.symm
theorem FnS.def {f : Addr} {ps : List String} {body : List Stmt} {m : Rho → Option PyData} (D : DefOk hb f sc ps body) (hnat : "at" ∉ ps) (h : StS prog w hb n sc body m) : FnS prog w hb (n + 1) f (fun xs => if xs.length = ps.length then m (rho0 ps xs) else none) := by
  intro A s us xs as y base l Q E hA hl stay fr gb b rd hw hm hQ
  obtain ⟨fo, fd, args, ho, hd, hp, hnm, hbd, hsc, hcl, hdf, hgl, hbu, hcr⟩ := D.there
  dsimp only at hm
  split at hm
  · rename_i hlen
    have hps : args.length = ps.length := by simpa using congrArg List.length hnm
    have hul : args.length = us.length := by rw [hps, rd.length, hlen]
    have hnames : (args.map (·.arg)).Nodup := by
      rw [hnm]
      rw [List.Nodup, List.pairwise_map]
      exact D.names.imp fun h e => h (ofString_inj e)
    refine wpAny_call (codeAny_call_function (fd := fd) (body := body) (by have := hA.depth; lia) (b.grow _ _ ho) hd (by rw [hsc]; exact D.co) (by rw [hsc]; exact D.gen) hbd (hcr.keeps b.grow) ?_)
    rw [bind_plain hp hdf hul hnames, hnm, hsc, hgl, hcl, hbu]
    refine wpAny_pure (wpAny_newFunctionEnv_cells D.kind (fun z hz => ?_) fun env he s' x => ?_)
    · have := (List.of_mem_zip hz).1
      obtain ⟨p, hp', e⟩ := List.mem_map.mp this
      rw [← e]
      refine (isVar_kinds (D.vars p hp')).imp id fun q => ⟨q, cells_some _ _ _ (.inl q)⟩
    · have e1 : env.scope = sc := by rw [he]; rfl
      have e2 : env.globals = mainGlobals := by rw [he]; rfl
      have e3 : env.builtins = builtinsNs := by rw [he]; rfl
      have e4 : env.cells = cellsFrom (env.locals + 1) sc.names [] := by rw [he]; rfl
      have I := InS.start (w := w) b e1 D.kind e2 e3 e4 D.once D.names rd hw x
      refine ⟨I.base.nolimit, codeAny_func ?_⟩
      have pe : PlainEnv env := ⟨by rw [e1]; exact D.gen, by rw [e1]; exact D.co, e3, e2⟩
      exact h e1 (hA.deeper pe) ⟨Around.frames_deeper hl, by rw [he]; rfl, stay, fr⟩ gb I x.toInCall.ns (bindL_other (zip_names hnat)) hm fun u s'' a b c d e => hQ u s'' a b c d e
  · exact no hm
noncomputable def DefS (prog : Program) (w : World) (hb : Heap) (n : Nat) (x : String) (m : List PyData → Option PyData) : Prop :=
  ∃ a o fd, GName hb x (.ref a) ∧ hb.get? a = some o ∧ o.data = .func fd ∧ FnS prog w hb n a m
theorem DefS.of {x : String} {ps : List String} {body : List Stmt} {m : Rho → Option PyData} (D : DefAt hb x sc ps body) (hnat : "at" ∉ ps) (h : StS prog w hb n sc body m) : DefS prog w hb (n + 1) x (fun xs => if xs.length = ps.length then m (rho0 ps xs) else none) := by
  obtain ⟨a, g, D⟩ := D
  obtain ⟨fo, fd, args, ho, hd, _⟩ := D.there
  exact ⟨a, fo, fd, g, ho, hd, FnS.def D hnat h⟩
end
end

section
variable {prog : Program} {w : World} {hb : Heap} {n : Nat} {sc : Scope}
theorem InS.loose {s₀ s : Shared} {env : Env} {C : List Addr} {ρ : Rho} {O : List (String × List Addr)} {h' : Heap} {tk : Nat} (I : InS prog w [] hb s₀ [] env C ρ O s) (st : (hideH [env.locals] s.heap).StaysIn h') (lo : Loose s.heap h') :
    InS prog w [] hb s₀ [] env C ρ O { s with heap := h', toks := tk } ∧ Step s.heap h' (WW env C O) (WW env C O) := by
  have kp : ∀ b o, s.heap.get? b = some o → b ≠ env.locals → h'.get? b = some o := fun b o e hne => st b o (by rw [hideH_get, if_neg (by simpa using hne)]; exact e)
  have mine : env.locals ∈ WW env C O := List.mem_cons_self ..
  have off : Off (WW env C O) s.heap h' := fun b o e q => kp b o e fun z => by
    rcases q with q | q
    · exact q (z ▸ mine)
    · obtain ⟨o', e', nt⟩ := I.walive b (z ▸ mine)
      rw [e] at e'
      (have e := si e'; subst e; clear e')
      exact nt q
  have turn : ∀ {x : String} {u : Value} {vv : VV}, RepVV prog w [] s₀.heap (WW env C O) O s.heap x u vv → RepVV prog w [] s₀.heap (WW env C O) O h' x u vv := fun r =>
    r.turn (Z := [env.locals]) off (fun b ob e q => kp b ob e (by simpa using q)) (fun sp e a ha q => (own_off I.wnodup e ha).1 (by simpa using q)) (fun _ h => .inl h) rfl
  refine ⟨⟨⟨?_, ?_, fun b o e _ => kp b o (I.keep b o e fun q => nomatch q) fun z => ?_, fun b o e => ⟨o, kp b o (I.keep b o e fun q => nomatch q) fun z => ?_⟩, fun a ha => ?_, I.wfresh, I.wnodup, I.kind, I.glob, I.bult, I.clk, ?_, ?_⟩, I.fc, I.finj, fun x c hc => ?_⟩, fun b o e q => kp b o e fun z => q (z ▸ mine), fun _ h => .inl h⟩
  · obtain ⟨h, t, e⟩ := I.same
    exact ⟨h', tk, by rw [e]⟩
  · refine ⟨fun _ q => (nomatch q), I.base.lim, I.base.seer, I.base.tree, I.base.mods, fun b o e => kp b o (I.base.grow b o e) fun z => ?_⟩
    rw [z, (I.wfresh _ mine).1] at e; exact no e
  · rw [z, (I.wfresh _ mine).2 fun q => nomatch q] at e; exact no e
  · rw [z, (I.wfresh _ mine).2 fun q => nomatch q] at e; exact no e
  · by_cases z : a = env.locals
    · subst z
      obtain ⟨m, ⟨o, es, ep, e, d, _⟩, _⟩ := I.ns
      obtain ⟨o', e', _, _, q⟩ := lo _ _ e
      refine ⟨o', e', fun ⟨vs, k, z⟩ => ?_⟩
      have := q fun vs hv => by rw [d] at hv; cases hv
      rw [z, d] at this; cases this
    · obtain ⟨o, e, nt⟩ := I.walive a ha
      exact ⟨o, kp a o e z, nt⟩
  · obtain ⟨m, hn, hv⟩ := I.ns
    exact ⟨m, lo.ns hn, fun x vv e1 e2 => let ⟨u, hu, r⟩ := hv x vv e1 e2; ⟨u, hu, turn r⟩⟩
  · intro x vv e1 e2
    obtain ⟨c, u, h1, ⟨o, ho, hd⟩, r⟩ := I.cell x vv e1 e2
    have hc := (I.cello _ _ h1).1
    exact ⟨c, u, h1, ⟨o, kp c o ho (fun z => by
      have N := I.wnodup
      unfold WW at N
      rw [List.nodup_cons] at N
      exact N.1 (List.mem_append_left _ (z ▸ hc))), hd⟩, turn r⟩
  · obtain ⟨hc', v, o, ho, hd⟩ := I.cello x c hc
    exact ⟨hc', v, o, kp c o ho (fun z => by
      have N := I.wnodup
      unfold WW at N
      rw [List.nodup_cons] at N
      exact N.1 (List.mem_append_left _ (z ▸ hc'))), hd⟩
section
variable (prog w hb)
noncomputable def StT (n : Nat) (sc : Scope) (ss : List Stmt) (m : Rho → Option Out) : Prop :=
  ∀ ⦃A : Around⦄ ⦃env : Env⦄ ⦃s₀ : Shared⦄ ⦃C : List Addr⦄ ⦃ρ : Rho⦄ ⦃O : List (String × List Addr)⦄ ⦃s : Shared⦄ ⦃r : Out⦄ ⦃Q : Flow → Shared → Prop⦄ ⦃E : Value → Shared → Prop⦄,
    env.scope = sc → RoomF A n → A.frames = some [env] → env.frame = some env.locals → InS prog w [] hb s₀ [] env C ρ O s → m ρ = some r → Ends prog w [] hb s₀ [] env C O s r Q → wpAny (model prog w) A (execs ss env) Q E s
end
theorem StT.of {ss : List Stmt} {m : Rho → Option Out} (h : St prog w hb n sc ss m) : StT prog w hb n sc ss m := by
  intro A env s₀ C ρ O s r Q E hs hA hf ho I hm hQ
  exact h hs hA I hm hQ
theorem StT.cons {st : Stmt} {rest : List Stmt} {m m' : Rho → Option Out} (h : S1 prog w hb n sc st m) (h' : StT prog w hb n sc rest m') : StT prog w hb n sc (st :: rest) (fun ρ => (m ρ).bind (thenB m')) := by
  intro A env s₀ C ρ O s r Q E hs hA hf ho I
  refine bindI fun o ho' hm hQ => ?_
  refine wpAny_execs_cons (h hs hA I ho' ?_)
  induction o with
  | next ρ' => exact fun O s' I' t => h' hs hA hf ho I' hm (hQ.trans t)
  | brk ρ' => (have e := si hm; subst e; clear hm); exact hQ
  | cont ρ' => (have e := si hm; subst e; clear hm); exact hQ
  | ret x => (have e := si hm; subst e; clear hm); exact hQ
  | retT x ρ' => (have e := si hm; subst e; clear hm); exact hQ
noncomputable def putS (ρ : Rho) (x : String) (y : PyData) : Option Out := some (.next (ρ.set x (.val ⟨y, .d⟩)))
theorem StT.said {x f : String} {k : Nat} {es : List Expr} {np cp p pos : Pos} {rest : List Stmt} {ms : Rho → Option (List V)} {m : List PyData → Option PyData} {m' : Rho → Option Out} (h : DefS prog w hb k f m) (hes : Evs prog w hb n sc es ms) (hx : isGlob sc f = true) (hv : isVar sc x = true) (hk : k ≤ n)
    (hstar : ∀ env : Env, (backTo cp (starEach es env)).any (·.1) = false) (hsw : ∀ env : Env, env.scope = sc → swapsWith (.Call (.Name (Str.ofString f) np) es [] cp) (some (.Name (Str.ofString x) p)) pos.line env = pure false) (h' : StT prog w hb n sc rest m') :
    StT prog w hb n sc (.Assign [.Name (Str.ofString x) p] (.Call (.Name (Str.ofString f) np) es [] cp) pos :: rest) (fun ρ => ((ms ρ).bind fun vs => (m (vs.map (·.x))).bind (putS ρ x)).bind (thenB m')) := by
  obtain ⟨a, o, fd, g, ho, hd, hf⟩ := h
  intro A env s₀ C ρ O s r Q E hs hA hfr hown I
  refine bindI fun o1 hm1 hm hQ => ?_
  obtain ⟨vs, hv', hm1⟩ := bindE hm1
  obtain ⟨y, hy, hm1⟩ := bindE hm1
  have e1 := si hm1
  subst e1
  refine wpAny_execs_cons (wpAny_Assign_Name ?_ (hsw env hs))
  show wpAny _ _ (eval (.Name (Str.ofString f) np) env >>= fun f => callWith cp f [] (backTo cp (starEach es env)) []) _ _ s
  refine wpAny_bind (eval_glob I.toInF (by rw [hs]; exact hx) g (callWith_ok (.inr (.inr ⟨a, o, fd, rfl, ho, hd⟩)) (hstar env) (hes hs hA I.toInF hv' fun us s₁ k₁ r₁ => ⟨(I.grow k₁).base.grow, ?_⟩)))
  have I₁ := I.grow k₁
  obtain ⟨as, rd, c, _⟩ := r₁.rds
  have mine : env.locals ∈ WW env C O := List.mem_cons_self ..
  have gb : Grow hb (hideH [env.locals] s₁.heap) := fun b o e => by
    rw [hideH_get, if_neg]
    · exact I₁.base.grow b o e
    · intro q
      rw [List.mem_singleton.mp q, (I₁.wfresh _ mine).1] at e; exact no e
  have fr : s₁.heap.FunFrames (hideH [env.locals] s₁.heap) [env] := by
    obtain ⟨m, hn, _⟩ := I₁.ns
    exact Heap.FunFrames.cons (by rw [I₁.kind]; decide) hown hn (by rw [hideH_get, if_pos (List.mem_singleton.mpr rfl)]) trivial
  refine hf (hA.toRoom.mono hk) hfr hideH_sub fr gb I₁.base rd c hy ?_
  rintro u s₂ ⟨h₂, tk, rfl⟩ st lo ru cu
  obtain ⟨I₂, t₂⟩ := I₁.loose (tk := tk) st lo
  refine I₂.store (v := .val ⟨y, .d⟩) (by rw [hs]; exact hv) ⟨.inl rfl, [], ru, cu, FlOk.nil⟩ fun s' I' t => h' hs hA hfr hown I' hm (hQ.trans (((Step.of_grow (keeps_grow k₁)).trans t₂).trans t))
theorem law_runT {f : Addr} {p₀ : String} {body : List Stmt} {m : Rho → Option Out} {A : Around} {s : Shared} {u₀ : Value} {x₀ : PyData} {as₀ : List Addr} {y : PyData} {Q : Value → Shared → Prop} {E : Value → Shared → Prop} (D : DefOk hb f sc [p₀] body) (h : StT prog w hb n sc body m) (hA : Room A (n + 1)) (hfr : A.frames = some [])
    (b : Base prog [] hb s.heap) (rd : RD prog w [] s.heap u₀ x₀ as₀) (hw : wf x₀ = true) (hm : m (rho0 [p₀] [x₀]) = some (.ret y)) (hQ : ∀ u as s', Keeps s s' → RD prog w [] s'.heap u y as → Q u s') : wpAny (model prog w) A (call (.ref f) [u₀]) Q E s := by
  obtain ⟨fo, fd, args, ho, hd, hp, hnm, hbd, hsc, hcl, hdf, hgl, hbu, hcr⟩ := D.there
  have hps : args.length = [p₀].length := by simpa using congrArg List.length hnm
  have hul : args.length = [u₀].length := hps
  have hnames : (args.map (·.arg)).Nodup := by
    rw [hnm]
    rw [List.Nodup, List.pairwise_map]
    exact D.names.imp fun h e => h (ofString_inj e)
  refine wpAny_call (codeAny_call_function (fd := fd) (body := body) (by have := hA.depth; lia) (b.grow _ _ ho) hd (by rw [hsc]; exact D.co) (by rw [hsc]; exact D.gen) hbd (hcr.keeps b.grow) ?_)
  rw [bind_plain hp hdf hul hnames, hnm, hsc, hgl, hcl, hbu]
  refine wpAny_pure (wpAny_newFunctionEnv_cells D.kind (fun z hz => ?_) fun env he s' x => ?_)
  · have := (List.of_mem_zip hz).1
    obtain ⟨p, hp', e⟩ := List.mem_map.mp this
    rw [← e]
    refine (isVar_kinds (D.vars p hp')).imp id fun q => ⟨q, cells_some _ _ _ (.inl q)⟩
  · have e1 : env.scope = sc := by rw [he]; rfl
    have e2 : env.globals = mainGlobals := by rw [he]; rfl
    have e3 : env.builtins = builtinsNs := by rw [he]; rfl
    have e4 : env.cells = cellsFrom (env.locals + 1) sc.names [] := by rw [he]; rfl
    have I := InS.start (w := w) b e1 D.kind e2 e3 e4 D.once D.names (.cons rd .nil) (by simp [wfs, hw]) x
    refine ⟨I.base.nolimit, codeAny_func ?_⟩
    have pe : PlainEnv env := ⟨by rw [e1]; exact D.gen, by rw [e1]; exact D.co, e3, e2⟩
    refine h e1 (hA.deeper pe) (Around.frames_deeper hfr) (by rw [he]; rfl) I hm ?_
    intro u as' O' ρ s'' J ru cu fr
    obtain ⟨h', tk, e⟩ := J.same
    exact hQ u as' s'' ⟨h', tk, e, fun b o eb => by have := J.keep b o eb (by simp); rw [e] at this; exact this⟩ ru
end

section
variable {prog : Program} {w : World} {Hz : List Addr} {hb : Heap} {n : Nat} {sc : Scope}
theorem dict_made {A : Around} {env : Env} {s₀ : Shared} {X C : List Addr} {ρ : Rho} {O : List (String × List Addr)} {s : Shared} {Q : Value → Shared → Prop} {E : Value → Shared → Prop} {keys : List (Option Expr)} {values : List Expr} {pos : Pos} {m : Rho → Option (List (Str × V))} {r : List (Str × V)} (h : Prs prog w hb n sc keys values m) (hall : keys.all (·.isSome) = true) (hl : keys.length = values.length) (h0 : keys ≠ []) (hlen : keys.length ≤ 15)
    (hs : env.scope = sc) (hA : RoomF A n) (I : InF prog w Hz hb s₀ X env C ρ O s) (hr : m ρ = some r) (hn : (r.map (·.1)).Nodup) (hf : flats (r.map (·.2.x)) = true)
    (hQ : ∀ h' tk kvs, Grow s.heap h' → h'.DictOf (strKind prog w) s.heap.objs.size kvs → (s.heap.objs.size == sysModules) = false → kvs.map (·.1) = r.map (·.1) → RDs prog w Hz h' (kvs.map (·.2)) (r.map (·.2.x)) [] → (∀ p ∈ r, wf (.str p.1) = true ∧ wf p.2.x = true) → Q (.ref s.heap.objs.size) { s with heap := h', toks := tk }) :
    wpAny (model prog w) A (eval (.Dict keys values pos) env) Q E s := by
  refine wpAny_Dict_walk (knd := strKind prog w) hall hl h0 hlen ?_
  have k₀ := keeps_push s { cls := .type "dict", data := .dict #[] }
  refine h hs hA (I.grow k₀) hr fun us s₁ k₁ r₁ => ?_
  obtain ⟨q1, q2⟩ := r₁.str
  obtain ⟨q3, q4⟩ := r₁.rds hf
  have hmod : (s.heap.objs.size == sysModules) = false := by
    rw [beq_eq_false_iff_ne]
    intro e
    obtain ⟨o, ho⟩ := I.base.mods
    have := I.base.grow _ _ ho
    rw [← e, get?_size_none _ (Nat.le_refl _)] at this
    exact no this
  have hd : s₁.heap.DictOf (strKind prog w) s.heap.objs.size [] := (Heap.DictOf.new s.heap).keep (keeps_grow k₁)
  refine ⟨strPairs us, carries_strPairs prog w us q1, hd, fun h' hm' hs' => ?_⟩
  rw [merged_nil_of_nodup _ (by rw [q2]; exact hn)] at hm'
  have g : Grow s.heap h' := fun b o e => by
    have hne : b ≠ s.heap.objs.size := fun e' => by rw [e', get?_size_none _ (Nat.le_refl _)] at e; exact no e
    rw [hs'.2 b hne]
    exact keeps_grow k₁ _ _ (Grow.push _ _ _ _ e)
  have of : Off [s.heap.objs.size] s₁.heap h' := by
    intro b o e hb'
    have hne : b ≠ s.heap.objs.size := by
      rcases hb' with hb' | ⟨vs, kk, rfl⟩
      · exact fun e' => hb' (by rw [e']; exact .head _)
      · intro e'
        obtain ⟨o', es, ep, ho', hx, _⟩ := hd
        rw [e', ho'] at e
        (have e := si e; subst e; clear e)
        have := hx.1
        simp at this
    rw [hs'.2 b hne]; exact e
  obtain ⟨h1, t1, e1, _⟩ := keeps_trans k₀ k₁
  have fin := hQ h' (s₁.toks + us.length) (strPairs us) g hm' hmod q2 (q3.off of (fun _ q => nomatch q)) q4
  rw [e1] at fin ⊢
  exact fin
theorem S1.ownDictP {x : String} {keys : List (Option Expr)} {values : List Expr} {dp p pos : Pos} {m : Rho → Option (List (Str × V))} (h : Prs prog w hb n sc keys values m) (hall : keys.all (·.isSome) = true) (hl : keys.length = values.length) (h0 : keys ≠ []) (hlen : keys.length ≤ 15) (hv : isVar sc x = true)
    (hsw : ∀ env : Env, env.scope = sc → swapsWith (.Dict keys values dp) (some (.Name (Str.ofString x) p)) pos.line env = pure false) :
    S1 prog w hb n sc (.Assign [.Name (Str.ofString x) p] (.Dict keys values dp) pos) (fun ρ => (m ρ).bind fun r => if (r.map (·.1)).Nodup ∧ flats (r.map (·.2.x)) = true ∧ r.length ≤ sizeLine then some (.next (ρ.set x (.own (.dct (r.map fun p => (p.1, p.2.x)))))) else none) := by
  intro A Hz env s₀ X C ρ O s out Q E hs hA I
  refine bindI fun r hr => ifI fun hc hm hQ => ?_
  (have e := si hm; subst e; clear hm)
  refine wpAny_Assign_Name (dict_made h hall hl h0 hlen hs hA I.toInF hr hc.1 hc.2.1 fun h' tk kvs g hd hmod hk hr' hw => ?_) (hsw env hs)
  have k₁ : Keeps s { s with heap := h', toks := tk } := ⟨h', tk, rfl, g⟩
  have hD : s.heap.get? s.heap.objs.size = none := get?_size_none _ (Nat.le_refl _)
  obtain ⟨o, es, ep, ho, hx, hrest⟩ := id hd
  have I₂ := I.growOwn k₁ x hD ho (not_tup_dct hx.1)
  refine I₂.store (v := .own (.dct (r.map fun p => (p.1, p.2.x)))) (by rw [hs]; exact hv) ⟨[s.heap.objs.size], by rw [List.lookup_cons, beq_self_eq_true], ?_⟩ fun s' I' t => hQ _ s' (by rw [← del_set]; exact I') ((grow_step k₁ x hD).trans t)
  refine .dct (kvs := kvs) (as := []) hd hmod (by rw [hk, List.map_map]; rfl) (by rw [List.map_map]; exact hr') (wf_dictOf.mpr ⟨by simpa using hc.2.2, fun p hp => ?_⟩) FlOk.nil
  obtain ⟨q, hq, rfl⟩ := List.mem_map.mp hp
  exact hw q hq
theorem S1.update {x : String} {keys : List (Option Expr)} {values : List Expr} {dp p ap cp pos : Pos} {m : Rho → Option (List (Str × V))} (h : Prs prog w hb n sc keys values m) (hall : keys.all (·.isSome) = true) (hl : keys.length = values.length) (h0 : keys ≠ []) (hlen : keys.length ≤ 15) (hv : isVar sc x = true)
    (he : ∀ env, starEach [.Dict keys values dp] env = [(false, eval (.Dict keys values dp) env)]) (hli : (ap.endLine == cp.line) = true) (hi : ∀ env : Env, env.scope = sc → interactive env = false) :
    S1 prog w hb n sc (.Expr (.Call (.Attribute (.Name (Str.ofString x) p) (Str.ofString "update") ap) [.Dict keys values dp] [] cp) pos)
      (fun ρ => match ρ x with | some (.own (.dct ks)) => (m ρ).bind fun r => if (ks.map (·.1) ++ r.map (·.1)).Nodup ∧ flats (r.map (·.2.x)) = true ∧ ks.length + r.length ≤ sizeLine then some (.next (ρ.set x (.own (.dct (ks ++ r.map fun p => (p.1, p.2.x)))))) else none | _ => none) := by
  intro A Hz env s₀ X C ρ O s out Q E hs hA I hm hQ
  dsimp only at hm
  split at hm
  · rename_i ks hx
    obtain ⟨r, hr, hm⟩ := bindE hm
    revert hm
    refine ifI fun hc hm => ?_
    cases hm
    refine wpAny_Expr (wpAny_Call_method rfl (by rw [he]; rfl) hli F.plainAttrs_dict F.slot_dict_update F.type_dict_update (I.owned (by rw [hs]; exact hv) hx (fun _ _ q => by cases q) fun a hO ro => ?_)) (hi env hs)
    cases ro with
    | dct a1 g b c d e' =>
      rename_i kvs as
      refine ⟨a1.typeIs, a1.mapOf.noDict, ?_⟩
      rw [he]
      show wpAny _ _ (callWith cp (.builtin "dict.update") [.ref a] [(false, eval (.Dict keys values dp) env)] []) _ _ _
      have hnd := hc.1
      rw [List.nodup_append] at hnd
      refine method_meetsIn F.slot_dict_update F.entry_dict_update rfl (evalArgs_plain (spliced_cons (dict_made h hall hl h0 hlen hs hA I.toInF hr hnd.2.1 hc.2.1 fun h' tk more gr hd hmod hk hr' hw => spliced_nil ?_)))
      have k₁ : Keeps s { s with heap := h', toks := tk } := ⟨h', tk, rfl, gr⟩
      have I₁ := I.grow k₁
      have a1' : h'.DictOf (strKind prog w) a kvs := by obtain ⟨o, es, ep, ho, r⟩ := a1; exact ⟨o, es, ep, gr _ _ ho, r⟩
      have hne : a ≠ s.heap.objs.size := fun q => by
        obtain ⟨o, es, ep, ho, _⟩ := a1
        rw [q, get?_size_none _ (Nat.le_refl _)] at ho; exact no ho
      have hlk : kvs.length = ks.length := by simpa using congrArg List.length b
      have hlm : more.length = r.length := by simpa using congrArg List.length hk
      refine ⟨rfl, a1'.typeIs, F.args_dict_update_2 _ _, _, meets_dict_update (strKind prog w) a s.heap.objs.size hne hmod, kvs, more, a1', hd, (by rw [hlk, hlm]; exact hc.2.2), fun h₂ hm₂ _ sb => ?_⟩
      rw [merged_append_of_fresh kvs more (by rw [List.map_append, b, hk]; exact hc.1)] at hm₂
      show Q .next _
      have hnew : ∃ ob, h₂.get? a = some ob ∧ ¬ Tup ob := by
        obtain ⟨o, es, ep, ho, hx, _⟩ := hm₂
        exact ⟨o, ho, not_tup_dct hx.1⟩
      refine hQ O _ (I₁.updOwn (tk := tk) hx hO sb hnew fun u' r' off => ?_) ((Step.of_grow gr).trans (upd_step hO sb))
      have off : Off (WW env C O) h' h₂ := off
      cases r' with
      | dct a2 g2 b2 c2 d2 e2 =>
        have c' := (c.grow gr).off off fun y hy => (e' y hy).2
        have hr2 := hr'.off off fun _ q => nomatch q
        have d' := wf_dictOf.mp d
        refine .dct (kvs := kvs ++ more) (as := as ++ []) hm₂ g2 (by rw [List.map_append, List.map_append, b, hk, List.map_map]; rfl) (by rw [List.map_append, List.map_append, List.map_map]; exact c'.append hr2) (wf_dictOf.mpr ⟨by simpa using hc.2.2, fun p hp => ?_⟩) (by rw [List.append_nil]; exact e')
        rcases List.mem_append.mp hp with hp | hp
        · exact d'.2 p hp
        · obtain ⟨q, hq, rfl⟩ := List.mem_map.mp hp
          exact hw q hq
  · exact no hm
theorem RepO.lst_inv {s₀ h : Heap} {W : List Addr} {u : Value} {xs : List PyData} {sp : List Addr} (r : RepO prog w Hz s₀ W h u (.lst xs) sp) : ∃ a vs k as, u = .ref a ∧ sp = [a] ∧ h.get? a = some (lstObj vs k) ∧ RDs prog w Hz h vs xs as ∧ wf (.list xs) = true ∧ FlOk s₀ W .d as := by
  cases r with
  | lst a b c d => exact ⟨_, _, _, _, rfl, rfl, a, b, c, d⟩
theorem ifE {α : Type} {c : Prop} {dc : Decidable c} {o : Option α} {z : α} (h : (if c then o else none) = some z) : c ∧ o = some z := by
  by_cases hc : c
  · rw [if_pos hc] at h; exact ⟨hc, h⟩
  · rw [if_neg hc] at h; exact no h
noncomputable def ownAddD (ρ : Rho) (x : String) (a b : V) : Option Out := (listOfD a.x).bind fun xs => (listOfD b.x).bind fun ys => if a.fl = .d ∧ b.fl = .d ∧ xs.length + ys.length ≤ sizeLine then some (.next (ρ.set x (.own (.lst (xs ++ ys))))) else none
theorem S1.ownAdd {x : String} {l r : Expr} {bp p pos : Pos} {ml mr : Rho → Option V} (hl : Ev prog w hb n sc l ml) (hr : Ev prog w hb n sc r mr) (hv : isVar sc x = true) (hsw : ∀ env : Env, env.scope = sc → swapsWith (.BinOp l .Add r bp) (some (.Name (Str.ofString x) p)) pos.line env = pure false) :
    S1 prog w hb n sc (.Assign [.Name (Str.ofString x) p] (.BinOp l .Add r bp) pos) (fun ρ => (ml ρ).bind fun a => (mr ρ).bind fun b => ownAddD ρ x a b) := by
  intro A Hz env s₀ X C ρ O s out Q E hs hA I
  refine bindI fun a ha => bindI fun b hb' => bindI fun xs hxs => bindI fun ys hys => ifI fun hc hm hQ => ?_
  (have e := si hm; subst e; clear hm)
  refine wpAny_Assign_Name (wpAny_BinOp (hl hs hA I.toInF ha fun u s₁ k₁ r₁ => hr hs hA (I.toInF.grow k₁) hb' fun u' s₂ k₂ r₂ => ?_)) (hsw env hs)
  obtain ⟨ax, af⟩ := a
  obtain ⟨bx, bf⟩ := b
  dsimp only at hxs hys hc
  obtain rfl := listOfD_some hxs
  obtain rfl := listOfD_some hys
  obtain ⟨rfl, rfl, hz⟩ := hc
  have I₂ := (I.grow k₁).grow k₂
  obtain ⟨as, ra, ca, oa⟩ := r₁.grow (keeps_grow k₂)
  obtain ⟨bs, rb, cb, ob⟩ := r₂
  induction ra.listI with | mk d us m cs a1 a2 => ?_
  induction rb.listI with | mk d' us' m' cs' b1 b2 => ?_
  dsimp only at ca cb oa ob
  rw [wf_list] at ca cb
  refine P.add_list a1 b1 ?_ (by simpa [a2.length, b2.length] using hz)
  rw [List.append_toArray]
  have I₃ := I₂.pushOwn x (o := lstObj (us ++ us') 0) (not_tup_lst _ _) rfl
  have hnone : s₂.heap.get? s₂.heap.objs.size = none := get?_size_none _ (Nat.le_refl _)
  refine I₃.store (v := .own (.lst (xs ++ ys))) (by rw [hs]; exact hv) ⟨[s₂.heap.objs.size], by rw [List.lookup_cons, beq_self_eq_true], ?_⟩ fun s' I' t => hQ _ s' (by rw [← del_set]; exact I') ((Step.of_grow (Grow.trans (keeps_grow k₁) (keeps_grow k₂))).trans ((push_step x).trans t))
  have rr := a2.append b2
  have oo : FlOk s₀.heap (WW env C O) .d (cs ++ cs') := FlOk.append (oa.mono fun a h => .tail _ h) (ob.mono fun a h => .tail _ h)
  refine .lst (as := cs ++ cs') (Heap.get?_push_size _ rfl) (rr.grow (Grow.push _ _)) (wf_list.mpr ⟨by simpa using hz, by rw [wfs_append, ca.2, cb.2]; rfl⟩) (oo.more rr.alive hnone fun b hb' => ?_)
  simp only [WW, List.flatMap_cons, List.mem_cons, List.mem_append, List.not_mem_nil, or_false] at hb' ⊢
  rcases hb' with h | h | h | h
  · exact .inr (.inl h)
  · exact .inr (.inr (.inl h))
  · exact .inl h
  · exact .inr (.inr (.inr h))
theorem S1.setIdx {x : String} {i e : Expr} {np p pos : Pos} {mi m : Rho → Option V} (hi : Ev prog w hb n sc i mi) (h : Ev prog w hb n sc e m) (hv : isVar sc x = true) (hsw : ∀ env : Env, swapsWith e (some (.Subscript (.Name (Str.ofString x) np) i p)) pos.line env = pure false) :
    S1 prog w hb n sc (.Assign [.Subscript (.Name (Str.ofString x) np) i p] e pos)
      (fun ρ => match ρ x with | some (.own (.lst xs)) => (m ρ).bind fun v => (mi ρ).bind fun k => (intOf k.x).bind fun j => if v.fl = .d ∧ 0 ≤ j ∧ j.toNat < xs.length then some (.next (ρ.set x (.own (.lst (xs.set j.toNat v.x))))) else none | _ => none) := by
  intro A Hz env s₀ X C ρ O s r Q E hs hA I hm hQ
  dsimp only at hm
  split at hm
  · rename_i xs hx
    obtain ⟨v, hv', hm⟩ := bindE hm
    obtain ⟨⟨kx, kf⟩, hk', hm⟩ := bindE hm
    obtain ⟨j, hj, hm⟩ := bindE hm
    dsimp only at hj
    obtain rfl := intOf_some hj
    revert hm
    refine ifI fun hz hm => ?_
    cases hm
    refine wpAny_Assign_Subscript (h hs hA I.toInF hv' fun u s₁ k₁ r₁ => (I.grow k₁).owned (by rw [hs]; exact hv) hx (fun _ _ q => by cases q) fun a hO r => hi hs hA (I.grow k₁).toInF hk' fun ku s₂ k₂ r₂ => ?_) (hsw env)
    have I₂ := (I.grow k₁).grow k₂
    have r := r.grow (keeps_grow k₂)
    have r₁ := r₁.grow (keeps_grow k₂)
    obtain ⟨cs, rk, ck, ok⟩ := r₂
    cases rk
    cases r with
    | lst a1 b c d =>
      rename_i vs k as
      rw [wf_list] at c
      have hlen := b.length
      have hsz := sizeLine_small
      refine set_at a1 hz.2.1 (by lia) (by rw [hlen]; exact hz.2.2) ?_
      obtain ⟨k', ek⟩ := mapSeq_lst vs k (fun ys => ys.setIfInBounds j.toNat u)
      have hnew : (s₂.heap.update a (Obj.mapSeq fun ys => ys.setIfInBounds j.toNat u)).get? a = some (lstObj (vs.set j.toNat u) k') := by
        rw [Heap.get?_update_self _ a1 rfl, ek]; simp
      refine hQ O _ (I₂.updOwn (tk := s₂.toks) hx hO (Heap.SameBut.update _ _ _) ⟨_, hnew, not_tup_lst _ _⟩ fun u' r' off => ?_) ((Step.of_grow (Grow.trans (keeps_grow k₁) (keeps_grow k₂))).trans (upd_step hO (Heap.SameBut.update _ _ _)))
      obtain ⟨bs, rv, cv, ov⟩ := r₁
      rw [hz.1] at ov
      cases r' with
      | lst a2 b2 c2 d2 =>
        obtain ⟨l1, l2, l3, e1, r3⟩ := (b.off off fun y hy => (d y hy).2).setAt (i := j.toNat) hz.2.2 (rv.off off fun y hy => (ov y hy).2)
        refine .lst hnew r3 (wf_list.mpr ⟨by simpa using c.1, (wfs_iff _).mpr fun y hy => ?_⟩) fun y hy => ?_
        · rcases List.mem_or_eq_of_mem_set hy with q | q
          · exact (wfs_iff _).mp c.2 y q
          · rw [q]; exact cv
        · rcases List.mem_append.mp hy with q | q
          · exact d y (by rw [e1]; exact List.mem_append_left _ q)
          · rcases List.mem_append.mp q with q | q
            · exact ov y q
            · exact d y (by rw [e1]; exact List.mem_append_right _ (List.mem_append_right _ q))
  · exact no hm
theorem S1.insert {x : String} {i e : Expr} {p ap cp pos : Pos} {mi m : Rho → Option V} (hi : Ev prog w hb n sc i mi) (h : Ev prog w hb n sc e m) (hv : isVar sc x = true) (he : ∀ env, starEach [i, e] env = [(false, eval i env), (false, eval e env)]) (hl : (ap.endLine == cp.line) = true)
    (hin : ∀ env : Env, env.scope = sc → interactive env = false) :
    S1 prog w hb n sc (.Expr (.Call (.Attribute (.Name (Str.ofString x) p) (Str.ofString "insert") ap) [i, e] [] cp) pos)
      (fun ρ => match ρ x with | some (.own (.lst xs)) => (mi ρ).bind fun k => (intOf k.x).bind fun j => (m ρ).bind fun v => if v.fl = .d ∧ 0 ≤ j ∧ j.toNat ≤ xs.length ∧ xs.length + 1 ≤ sizeLine then some (.next (ρ.set x (.own (.lst (xs.take j.toNat ++ v.x :: xs.drop j.toNat))))) else none | _ => none) := by
  intro A Hz env s₀ X C ρ O s r Q E hs hA I hm hQ
  dsimp only at hm
  split at hm
  · rename_i xs hx
    obtain ⟨⟨kx, kf⟩, hk', hm1⟩ := bindE hm
    obtain ⟨j, hj, hm2⟩ := bindE hm1
    obtain ⟨v, hv', hm3⟩ := bindE hm2
    clear hm hm1 hm2
    dsimp only at hj
    obtain rfl := intOf_some hj
    obtain ⟨hz, hm⟩ := ifE hm3
    cases hm
    refine wpAny_Expr (wpAny_Call_method rfl (by rw [he]; rfl) hl F.plainAttrs_list F.slot_list_insert F.type_list_insert (I.owned (by rw [hs]; exact hv) hx (fun _ _ q => by cases q) fun a hO r => ?_)) (hin env hs)
    cases r with
    | lst a1 b c d =>
      rename_i vs k as
      refine ⟨⟨_, a1, rfl⟩, fun a' ea => by cases ea; exact ⟨_, a1, rfl⟩, ?_⟩
      rw [he]
      show wpAny _ _ (callWith cp (.builtin "list.insert") [.ref a] [(false, eval i env), (false, eval e env)] []) _ _ _
      refine method_meets F.slot_list_insert F.entry_list_insert rfl (evalArgs_plain (spliced_cons (hi hs hA I.toInF hk' fun ku s₁ k₁ r₁ => spliced_cons (h hs hA (I.toInF.grow k₁) hv' fun u s₂ k₂ r₂ => spliced_nil ?_))))
      obtain ⟨cs, rk, ck, ok⟩ := r₁
      cases rk
      have kk := keeps_trans k₁ k₂
      have I₂ := I.grow kk
      have a1' := keeps_grow kk _ _ a1
      rw [wf_list] at c
      have hlen := b.length
      have hsz := sizeLine_small
      have hfit : ¬ ((!Builtin.List.listFitsIndex j) = true) := by rw [fitsIndex_of hz.2.1 (by lia)]; decide
      refine ⟨rfl, ⟨_, a1', rfl⟩, F.args_list_insert_3 _ _ _, _, AutoListH.list_insert_list_int_val_1 a vs.toArray k j _ u hfit (by simp [hlen]; exact c.1), a1', ?_⟩
      generalize hf : (fun xs : Array Value => have k := if j < 0 then (j + ((xs.size : Nat) : Int)).toNat else min j.toNat xs.size; (xs.extract 0 k).push u ++ xs.extract k) = f
      have ef : (f vs.toArray).toList = vs.take j.toNat ++ u :: vs.drop j.toNat := by
        rw [← hf]
        have e1 : ¬ (j < 0) := by lia
        have e2 : min j.toNat vs.length = j.toNat := by rw [hlen]; exact Nat.min_eq_left hz.2.2.1
        simp [e1, e2]
        exact List.take_of_length_le (by simp)
      obtain ⟨k', ek⟩ := mapSeq_lst vs k f
      have hnew : (s₂.heap.update a (Obj.mapSeq f)).get? a = some (lstObj (vs.take j.toNat ++ u :: vs.drop j.toNat) k') := by
        rw [Heap.get?_update_self _ a1' rfl, ek, ef]
      show Q .next _
      refine hQ O _ (I₂.updOwn (tk := s₂.toks) hx hO (Heap.SameBut.update _ _ _) ⟨_, hnew, not_tup_lst _ _⟩ fun u' r' off => ?_) ((Step.of_grow (keeps_grow kk)).trans (upd_step hO (Heap.SameBut.update _ _ _)))
      obtain ⟨bs, rv, cv, ov⟩ := r₂
      rw [hz.1] at ov
      cases r' with
      | lst a2 b2 c2 d2 =>
        have bb := (b.grow (keeps_grow kk)).off off fun y hy => (d y hy).2
        obtain ⟨l1, q1, s1⟩ := bb.slice 0 j.toNat
        obtain ⟨l2, q2, s2⟩ := bb.slice j.toNat vs.length
        rw [List.drop_zero, List.drop_zero] at q1
        rw [List.take_length, hlen, List.take_length] at q2
        refine .lst hnew (q1.append (.cons (rv.off off fun y hy => (ov y hy).2) q2)) (wf_list.mpr ⟨?_, (wfs_iff _).mpr fun y hy => ?_⟩) fun y hy => ?_
        · have := hz.2.2.2
          simp only [List.length_append, List.length_take, List.length_cons, List.length_drop]
          lia
        · rcases List.mem_append.mp hy with q | q
          · exact (wfs_iff _).mp c.2 y (List.mem_of_mem_take q)
          · rcases List.mem_cons.mp q with q | q
            · rw [q]; exact cv
            · exact (wfs_iff _).mp c.2 y (List.mem_of_mem_drop q)
        · rcases List.mem_append.mp hy with q | q
          · exact d y (s1 y q)
          · rcases List.mem_append.mp q with q | q
            · exact ov y q
            · exact d y (s2 y q)
  · exact no hm
theorem Ev.idxOwn {x : String} {i : Expr} {p pos : Pos} {mi : Rho → Option V} (hi : Ev prog w hb n sc i mi) (hv : isVar sc x = true) (hs' : ∀ o j, ∃ ops, subscripted i false o j = operate ops (getItem o j)) :
    Ev prog w hb n sc (.Subscript (.Name (Str.ofString x) p) i pos) (fun ρ => match ρ x with | some (.own (.lst xs)) => (mi ρ).bind fun k => (Mine.intOf k.x).bind fun j => if 0 ≤ j then (xs[j.toNat]?).map fun y => ⟨y, .d⟩ else none | _ => none) := by
  intro A Hz env s₀ X C ρ O s v Q E hs hA I hm hQ
  dsimp only at hm
  split at hm
  · rename_i xs hx
    obtain ⟨⟨kx, kf⟩, hk', hm1⟩ := bindE hm
    obtain ⟨j, hj, hm2⟩ := bindE hm1
    clear hm hm1
    obtain rfl := intOf_some hj
    obtain ⟨hz, hm⟩ := ifE hm2
    induction mapE hm with | mk y hy => ?_
    have main : ∀ u, RepVV prog w Hz s₀.heap (WW env C O) O s.heap x u (.own (.lst xs)) → wpAny (model prog w) A (eval i env) (fun k s₂ => wpAny (model prog w) A (PyProof.Rows.subscriptTail (.Name (Str.ofString x) p) i u k) Q E s₂) E s := by
      rintro u ⟨sp, _, r⟩
      obtain ⟨a, vs, k, as, rfl, rfl, a1, b, c, d⟩ := r.lst_inv
      refine hi hs hA I hk' fun ku s₂ k₂ r₂ => ?_
      obtain ⟨cs, rk, ck, ok⟩ := r₂
      cases rk
      have a1' := keeps_grow k₂ _ _ a1
      rw [wf_list] at c
      have hlen := b.length
      have hsz := sizeLine_small
      have hlt := (List.getElem?_eq_some_iff.mp hy).1
      obtain ⟨v, bs, e1, e2, e3⟩ := (b.grow (keeps_grow k₂)).get hy
      obtain ⟨ops, e⟩ := hs' (.ref a) (.int j _)
      refine PyProof.Rows.tail_any ⟨_, a1', rfl⟩ list_getitem_lookup (wpAny_getItem_list ⟨_, a1', rfl, _, rfl⟩ hz (by lia) (by simpa using e1) ?_) e
      exact hQ v _ k₂ ⟨bs, e2, wfs_get c.2 hy, fun b hb' => d b (e3 b hb')⟩
    subst hs
    simp only [isVar, Bool.and_eq_true, Bool.or_eq_true, decide_eq_true_eq, Bool.not_eq_true'] at hv
    obtain ⟨hv, hd⟩ := hv
    rcases hv with hv | hv
    · obtain ⟨m, hns, hxx⟩ := I.ns
      obtain ⟨u, hu, r⟩ := hxx x _ hx hv
      exact PyProof.Rows.Subscript_ (wpAny_Name (wpAny_loadName_local I.kind hv hns hu (main u r)) hd)
    · obtain ⟨c, u, hc, hu, r⟩ := I.cell x _ hx hv
      exact PyProof.Rows.Subscript_ (wpAny_Name (wpAny_loadName_cell I.kind hv hc hu (main u r)) hd)
  · exact no hm
mutual
noncomputable def dn : PyData → Bool
  | .none => true
  | .bool _ => true
  | .int _ => true
  | .str _ => true
  | .list xs => dns xs
  | .tuple xs => dns xs
  | .dict [] => true
  | .dict (_ :: _) => false
noncomputable def dns : List PyData → Bool
  | [] => true
  | x :: xs => dn x && dns xs
end
section
variable {A : Around} {s : Shared}
theorem same0 {a b : Addr} {nm : String} {E : Value → Shared → Prop} {Q : Bool → Shared → Prop} {prog' : Program} {w' : World} (da : s.heap.DictOf (strKind prog w) a []) (db : s.heap.DictOf (strKind prog w) b []) (ha : (a == sysModules) = false) (hb' : (b == sysModules) = false) (h : Q true s) :
    wpAny (model prog' w') A (Builtin.Dict.samePairs nm a b) Q E s := by
  obtain ⟨oa, es, ep, hoa, _, hda, _, hpa, _⟩ := da
  obtain ⟨ob, es', ep', hob, _, hdb, _, hpb, _⟩ := db
  have e1 : es = #[] := Array.eq_empty_of_size_eq_zero (by have := hpa.length; simpa using this)
  have e2 : es' = #[] := Array.eq_empty_of_size_eq_zero (by have := hpb.length; simpa using this)
  subst e1 e2
  unfold Builtin.Dict.samePairs Builtin.Dict.showsAll
  rw [if_neg (show ¬ (a == sysModules) = true by rw [ha]; exact Bool.false_ne_true), if_neg (show ¬ (b == sysModules) = true by rw [hb']; exact Bool.false_ne_true)]
  refine wpAny_bind (wpAny_pure (wpAny_bind (wpAny_pure ?_)))
  refine wpAny_bind (wpAny_dictEntries hoa hda ?_)
  dsimp only
  refine wpAny_bind (wpAny_dictEntries hob hdb ?_)
  rw [if_neg (by simp)]
  refine wpAny_bind (wpAny_dictEpoch hoa hda ?_)
  refine wpAny_bind ?_
  rw [Std.Legacy.Range.forIn_eq_forIn_range']
  exact wpAny_pure (wpAny_pure h)
theorem dict_eq0 {a b : Addr} (da : s.heap.DictOf (strKind prog w) a []) (db : s.heap.DictOf (strKind prog w) b []) (ha : (a == sysModules) = false) (hb' : (b == sysModules) = false) (hu : A.units < cLine) : SeqAt.RcAt A s (.ref a) (.ref b) true := by
  intro prog' w' E Q h
  refine wpAny_richCompare_same_room (op := .Eq) da.typeIs db.typeIs PySem.F.slot_dict_eq (wpAny_call_entry PySem.F.slot_dict_eq da.typeIs PySem.F.entry_dict_eq ?_ (PySem.F.args_dict_eq_2 _ _)) hu
  show wpAny _ _ (Builtin.Dict.dictSlotArgs "__eq__" ⟨[.ref a, .ref b], []⟩ >>= _) _ _ s
  refine wpAny_bind ?_
  unfold Builtin.Dict.dictSlotArgs
  refine wpAny_bind (wpAny_notOrdered_dict da.typeIs ?_)
  show wpAny _ _ (pure (Value.ref a, Value.ref b)) _ _ s
  refine wpAny_pure (wpAny_bind (wpAny_isInstance (T := "dict") db.typeIs isSubtype_dict_dict ?_))
  simp only [Bool.not_true, Bool.false_eq_true, if_false]
  refine wpAny_bind (wpAny_pure (wpAny_bind (wpAny_pure (wpAny_bind (same0 da db ha hb' ?_)))))
  exact wpAny_pure ⟨_, rfl, (fun x => nomatch x), h⟩
theorem all_true (k : Nat) : (List.range k).all (fun _ => true) = true := List.all_eq_true.mpr fun _ _ => rfl
theorem room_down {u a : Nat} (h : u + (a + 1) < cLine) : u + 1 + a < cLine := by lia
mutual
theorem eqSame : ∀ (x : PyData) (A : Around) (s : Shared) (u u' : Value) (as bs : List Addr), RD prog w Hz s.heap u x as → RD prog w Hz s.heap u' x bs → dn x = true → A.units + x.depth < cLine → SeqAt.EqAt A s u u' true
  | .none, A, s, u, u', _, _, r, r', _, _ => by rw [r.none_inv, r'.none_inv]; exact SeqAt.EqAt.same _
  | .bool b, A, s, u, u', _, _, r, r', _, _ => by rw [r.bool_inv, r'.bool_inv]; exact SeqAt.EqAt.same _
  | .int i, A, s, u, u', _, _, r, r', _, _ => by
    obtain ⟨t, rfl⟩ := r.int_inv
    obtain ⟨t', rfl⟩ := r'.int_inv
    have := SeqAt.EqAt.int_int (A := A) (s := s) i t i t'
    rwa [beq_self_eq_true] at this
  | .str x, A, s, u, u', _, _, r, r', _, _ => by
    obtain ⟨t, rfl⟩ := r.str_inv
    obtain ⟨t', rfl⟩ := r'.str_inv
    have := SeqAt.EqAt.str_str (A := A) (s := s) x t x t'
    rwa [beq_self_eq_true] at this
  | .list xs, A, s, u, u', as, bs, r, r', hd, hu => by
    obtain ⟨a, vs, k, cs, rfl, _, a1, a2⟩ := r.list_inv
    obtain ⟨b, ws, k', ds, rfl, _, b1, b2⟩ := r'.list_inv
    by_cases hne : a = b
    · rw [hne]; exact SeqAt.EqAt.same _
    · have hz : vs.toArray.size = ws.toArray.size := by simp [a2.length, b2.length]
      have := SeqAt.RcAt.lists (A := A) (s := s) (e := fun _ => true) ⟨_, a1, rfl, _, rfl⟩ ⟨_, b1, rfl, _, rfl⟩ hz (Nat.lt_of_le_of_lt (Nat.le_add_right _ _) hu) fun j h1 h2 => eqSames xs A.in1 s vs ws cs ds a2 b2 hd (room_down hu) j (by simpa using h1) (by simpa using h2)
      rw [all_true] at this
      exact SeqAt.EqAt.of_refs hne this
  | .tuple xs, A, s, u, u', as, bs, r, r', hd, hu => by
    obtain ⟨a, vs, k, rfl, a1, a2⟩ := r.tuple_inv
    obtain ⟨b, ws, k', rfl, b1, b2⟩ := r'.tuple_inv
    by_cases hne : a = b
    · rw [hne]; exact SeqAt.EqAt.same _
    · have hz : vs.toArray.size = ws.toArray.size := by simp [a2.length, b2.length]
      have := SeqAt.RcAt.tuples (A := A) (s := s) (e := fun _ => true) ⟨_, a1, rfl, _, rfl⟩ ⟨_, b1, rfl, _, rfl⟩ (Nat.lt_of_le_of_lt (Nat.le_add_right _ _) hu) fun j h1 h2 => eqSames xs A.in1 s vs ws as bs a2 b2 hd (room_down hu) j (by simpa using h1) (by simpa using h2)
      rw [all_true, hz, beq_self_eq_true, Bool.and_self] at this
      exact SeqAt.EqAt.of_refs hne this
  | .dict [], A, s, u, u', as, bs, r, r', hd, hu => by
    obtain ⟨a, ks, xs, _, rfl, _, e1, a1, a2, a3, _⟩ := r.dict_inv rfl
    obtain ⟨b, ks', xs', _, rfl, _, e2, b1, b2, b3, _⟩ := r'.dict_inv rfl
    have z1 : xs = [] := List.map_eq_nil_iff.mp e1.symm
    have z2 : xs' = [] := List.map_eq_nil_iff.mp e2.symm
    subst z1 z2
    have y1 : ks = [] := List.map_eq_nil_iff.mp a3
    have y2 : ks' = [] := List.map_eq_nil_iff.mp b3
    subst y1 y2
    by_cases hne : a = b
    · rw [hne]; exact SeqAt.EqAt.same _
    · exact SeqAt.EqAt.of_refs hne (dict_eq0 a1 b1 a2 b2 (Nat.lt_of_le_of_lt (Nat.le_add_right _ _) hu))
  | .dict (_ :: _), _, _, _, _, _, _, _, _, hd, _ => by cases hd
theorem eqSames : ∀ (xs : List PyData) (A : Around) (s : Shared) (vs ws : List Value) (as bs : List Addr), RDs prog w Hz s.heap vs xs as → RDs prog w Hz s.heap ws xs bs → dns xs = true → A.units + PyData.depthAll xs < cLine → ∀ j (h1 : j < vs.length) (h2 : j < ws.length), SeqAt.EqAt A s vs[j] ws[j] true
  | [], _, _, _, _, _, _, r, _, _, _, j, h1, _ => by
    obtain ⟨rfl, _⟩ := r.nil_inv
    exact absurd h1 (Nat.not_lt_zero _)
  | x :: xs, A, s, vs, ws, as, bs, r, r', hd, hu, j, h1, h2 => by
    obtain ⟨u, us, _, _, rfl, _, r1, r2⟩ := r.uncons
    obtain ⟨u', us', _, _, rfl, _, q1, q2⟩ := r'.uncons
    have hd' : dn x = true ∧ dns xs = true := by simpa [dns] using hd
    have hm : A.units + max x.depth (PyData.depthAll xs) < cLine := hu
    cases j with
    | zero => exact eqSame x A s u u' _ _ r1 q1 hd'.1 (by have := Nat.le_max_left x.depth (PyData.depthAll xs); lia)
    | succ j => exact eqSames xs A s us us' _ _ r2 q2 hd'.2 (by have := Nat.le_max_right x.depth (PyData.depthAll xs); lia) j (Nat.lt_of_succ_lt_succ h1) (Nat.lt_of_succ_lt_succ h2)
end
theorem ne_same {E : Value → Shared → Prop} {Q : Value → Shared → Prop} {xs : List PyData} {u u' : Value} {as bs : List Addr} (r : RD prog w Hz s.heap u (.list xs) as) (r' : RD prog w Hz s.heap u' (.list xs) bs) (hd : dns xs = true) (hu : A.units + PyData.depth (.list xs) < cLine) (h : Q (.bool false) s) :
    wpAny (model prog w) A (compareOp .NotEq u u') Q E s := by
  obtain ⟨a, vs, k, cs, rfl, _, a1, a2⟩ := r.list_inv
  obtain ⟨b, ws, k', ds, rfl, _, b1, b2⟩ := r'.list_inv
  have hz : vs.toArray.size = ws.toArray.size := by simp [a2.length, b2.length]
  have := SeqAt.RcNeAt.lists (A := A) (s := s) (e := fun _ => true) ⟨_, a1, rfl, _, rfl⟩ ⟨_, b1, rfl, _, rfl⟩ hz (Nat.lt_of_le_of_lt (Nat.le_add_right _ _) hu) fun j h1 h2 => eqSames xs A.in1 s vs ws cs ds a2 b2 hd (room_down hu) j (by simpa using h1) (by simpa using h2)
  rw [all_true] at this
  exact this prog w E Q h
end
noncomputable def neSameD (a b : PyData) : Option Bool := (listOfD a).bind fun xs => (listOfD b).bind fun ys => open Classical in if xs = ys ∧ dns xs = true ∧ PyData.depth (.list xs) ≤ 60 then some false else none
theorem Tr.neSame {l r : Expr} {pos : Pos} {ml mr : Rho → Option V} (hl : Ev prog w hb n sc l ml) (hr : Ev prog w hb n sc r mr) (hk : behindInMarks .NotEq r = false) :
    Tr prog w hb n sc (.Compare l [.NotEq] [r] pos) (fun ρ => (ml ρ).bind fun a => (mr ρ).bind fun b => neSameD a.x b.x) := by
  intro A Hz env s₀ X C ρ O s v Q E hs hA I
  refine bindI fun a ha => bindI fun b hb' => bindI fun xs hxs => bindI fun ys hys hm0 hQ => ?_
  obtain ⟨hc, hm⟩ := ifE hm0
  clear hm0
  (have e := si hm; subst e; clear hm)
  obtain ⟨ax, af⟩ := a
  obtain ⟨bx, bf⟩ := b
  dsimp only at hxs hys
  obtain rfl := listOfD_some hxs
  obtain rfl := listOfD_some hys
  obtain ⟨rfl, hd, hdp⟩ := hc
  refine wpAny_isTrue_Compare1 (hl hs hA I ha fun u s₁ k₁ r₁ => hr hs hA (I.grow k₁) hb' fun u' s₂ k₂ r₂ => ?_) hk
  obtain ⟨as, ra, _, _⟩ := r₁.grow (keeps_grow k₂)
  obtain ⟨bs, rb, _, _⟩ := r₂
  have := hA.units
  exact ne_same ra rb hd (by lia) (wpAny_truthy_bool (hQ _ (keeps_trans k₁ k₂)))
noncomputable def isTrueD : PyData → Option Bool
  | .none => some false
  | .bool b => some b
  | .int _ => some false
  | _ => none
theorem is_true {A : Around} {s : Shared} {E : Value → Shared → Prop} {Q : Value → Shared → Prop} {x : PyData} {c : Bool} {u : Value} {as : List Addr} (r : RD prog w Hz s.heap u x as) (h : isTrueD x = some c) (hQ : Q (.bool c) s) : wpAny (model prog w) A (compareOp .Is u (.bool true)) Q E s := by
  show wpAny _ A (do return .bool (← isSame u (.bool true))) Q E s
  have key : isSame u (.bool true) = pure c := by
    cases x with
    | none => (have e := si h; subst e; clear h); rw [r.none_inv]; rfl
    | bool b => (have e := si h; subst e; clear h); rw [r.bool_inv]; cases b <;> rfl
    | int i => (have e := si h; subst e; clear h); obtain ⟨t, rfl⟩ := r.int_inv; rfl
    | _ => exact no h
  rw [key]
  exact wpAny_bind (wpAny_pure (wpAny_pure hQ))
theorem Tr.isTrue {l : Expr} {k : Nat} {cp pos : Pos} {ml : Rho → Option V} (hl : Ev prog w hb n sc l ml) (hk : behindInMarks .Is (.Constant (.bool true) k cp) = false) :
    Tr prog w hb n sc (.Compare l [.Is] [.Constant (.bool true) k cp] pos) (fun ρ => (ml ρ).bind fun a => isTrueD a.x) := by
  intro A Hz env s₀ X C ρ O s v Q E hs hA I
  refine bindI fun a ha hm hQ => ?_
  refine wpAny_isTrue_Compare1 (hl hs hA I ha fun u s₁ k₁ r₁ => wpAny_Constant_bool ?_) hk
  obtain ⟨as, ra, _, _⟩ := r₁
  exact is_true ra hm (wpAny_truthy_bool (hQ _ k₁))
noncomputable def retX : VV → Option PyData
  | .val ⟨x, .d⟩ => some x
  | .own (.lst xs) => some (.list xs)
  | _ => none
theorem eval_fresh {A : Around} {env : Env} {s₀ s : Shared} {C : List Addr} {ρ : Rho} {O : List (String × List Addr)} {x : String} {p : Pos} {vv : VV} {d : PyData} {Q : Value → Shared → Prop} {E : Value → Shared → Prop} (I : InS prog w Hz hb s₀ [] env C ρ O s) (hv : isVar env.scope x = true) (hx : ρ x = some vv) (hd : retX vv = some d)
    (hQ : ∀ u as, RD prog w Hz s.heap u d as → wf d = true → (∀ a ∈ as, s₀.heap.get? a = none) → Q u s) : wpAny (model prog w) A (eval (.Name (Str.ofString x) p) env) Q E s := by
  have main : ∀ u, RepVV prog w Hz s₀.heap (WW env C O) O s.heap x u vv → Q u s := by
    intro u r
    cases vv with
    | val v =>
      obtain ⟨x, f⟩ := v
      cases f with
      | d =>
        (have e := si hd; subst e; clear hd)
        obtain ⟨_, as, r1, r2, r3⟩ := r
        exact hQ u as r1 r2 fun a ha => (r3 a ha).1
      | _ => exact no hd
    | own o =>
      cases o with
      | lst xs =>
        (have e := si hd; subst e; clear hd)
        obtain ⟨sp, e, r⟩ := r
        obtain ⟨a, vs, k, as, rfl, rfl, a1, b, c, d⟩ := r.lst_inv
        refine hQ _ (a :: as) (.list a1 b) c fun b hb' => ?_
        rcases List.mem_cons.mp hb' with rfl | hb'
        · exact (I.wfresh b (own_sub e (.head _))).2 fun q => nomatch q
        · exact (d b hb').1
      | _ => exact no hd
  simp only [isVar, Bool.and_eq_true, Bool.or_eq_true, decide_eq_true_eq, Bool.not_eq_true'] at hv
  obtain ⟨hv, hd'⟩ := hv
  rcases hv with hv | hv
  · obtain ⟨m, hns, hxx⟩ := I.ns
    obtain ⟨u, hu, r⟩ := hxx x _ hx hv
    exact wpAny_Name (wpAny_loadName_local I.kind hv hns hu (main u r)) hd'
  · obtain ⟨c, u, hc, hu, r⟩ := I.cell x _ hx hv
    exact wpAny_Name (wpAny_loadName_cell I.kind hv hc hu (main u r)) hd'
theorem StK.retPair {x y : String} {k : Nat} {p q tp pos : Pos} (hx : isVar sc x = true) (hy : isVar sc y = true) :
    StK prog w hb n sc [.Return (some (.Tuple [.Name (Str.ofString x) p, .Name (Str.ofString y) q] k tp)) pos] (fun ρ => (ρ x).bind fun a => (retX a).bind fun a => (ρ y).bind fun b => (retX b).map fun b => .tuple [a, b]) := by
  intro A Hz env s₀ C ρ O s z Q E hs hA I
  refine bindI fun va e1 => bindI fun a e2 => bindI fun vb e3 hm hQ => ?_
  induction mapE hm with | mk b e4 => ?_
  refine wpAny_execs_cons (wpAny_Return_some (wpAny_Tuple (wpAny_items_cons (eval_fresh I (by rw [hs]; exact hx) e1 e2 fun u as ra ca fa => wpAny_items_cons (eval_fresh I (by rw [hs]; exact hy) e3 e4 fun u' bs rb cb fb => wpAny_items_nil ⟨show 2 ≤ sizeLine by decide, ?_⟩)))))
  have k := keeps_push s { cls := .type "tuple", data := .seq #[u, u'] }
  have g := keeps_grow k
  refine hQ _ (as ++ (bs ++ [])) O ρ _ (I.grow k) (Step.of_grow g) (.tuple (vs := [u, u']) (n := 0) (Heap.get?_push_size _ rfl) (fun hz => ?_) (.cons (ra.grow g) (.cons (rb.grow g) .nil))) (wf_tuple.mpr ⟨show 2 ≤ sizeLine by decide, by simp only [wfs, ca, cb, Bool.and_self]⟩) fun c hc => ?_
  · obtain ⟨_, o, e, _⟩ := I.base.hide _ hz
    rw [get?_size_none _ (Nat.le_refl _)] at e; exact no e
  · rw [List.append_nil] at hc
    exact (List.mem_append.mp hc).elim (fa c) (fb c)
end

section
noncomputable def runX (m : Rho → Option OutX) (ρ : Rho) : Option OutX := m ρ
section
variable {ρ ρ₁ ρ₂ : Rho} {m' : Rho → Option OutX} {x : Rho → Option OutX} {r : OutX} {c : Addr} {z y : PyData}
theorem xof {m : Rho → Option Out} {o : Out} (h : run m ρ = some o) : runX (fun ρ => (m ρ).map .out) ρ = some (.out o) := by
  show (run m ρ).map _ = _; rw [h]; rfl
theorem xseq (h : runX x ρ = some (.out (.next ρ₁))) (h' : runX m' ρ₁ = some r) : runX (fun ρ => (x ρ).bind (thenX m')) ρ = some r := by
  show (runX x ρ).bind (thenX m') = _; rw [h]; exact h'
theorem xexc (h : runX x ρ = some (.exc c z)) : runX (fun ρ => (x ρ).bind (thenX m')) ρ = some (.exc c z) := by
  show (runX x ρ).bind (thenX m') = _; rw [h]; rfl
theorem xret (h : runX x ρ = some (.out (.ret y))) : runX (fun ρ => (x ρ).bind (thenX m')) ρ = some (.out (.ret y)) := by
  show (runX x ρ).bind (thenX m') = _; rw [h]; rfl
theorem xif_yes {mt : Rho → Option Bool} {a b : Rho → Option OutX} (ht : tst mt ρ = some true) (h : runX a ρ = some r) : runX (fun ρ => (mt ρ).bind fun c => if c then a ρ else b ρ) ρ = some r := by
  dsimp only [runX]; rw [show mt ρ = _ from ht]; exact h
theorem xif_no {mt : Rho → Option Bool} {a b : Rho → Option OutX} (ht : tst mt ρ = some false) (h : runX b ρ = some r) : runX (fun ρ => (mt ρ).bind fun c => if c then a ρ else b ρ) ρ = some r := by
  dsimp only [runX]; rw [show mt ρ = _ from ht]; exact h
variable {bind : V → Rho → Option Rho} {body : Rho → Option OutX} {f : Fl} {xs : List PyData} {w : PyData}
theorem forX_exc (h : bind (V.fix w f) ρ = some ρ₁) (h' : runX body ρ₁ = some (.exc c z)) : forX bind body f (w :: xs) ρ = some (.exc c z) := by
  unfold forX
  rw [h]
  simp only [Option.bind_some]
  rw [show body ρ₁ = _ from h']; rfl
theorem forX_next (h : bind (V.fix w f) ρ = some ρ₁) (h' : runX body ρ₁ = some (.out (.next ρ₂))) (h'' : forX bind body f xs ρ₂ = some r) : forX bind body f (w :: xs) ρ = some r := by
  unfold forX
  rw [h]
  simp only [Option.bind_some]
  rw [show body ρ₁ = _ from h']; exact h''
theorem xfor {mi : Rho → Option (List PyData × Fl)} (xs : List PyData) (f : Fl) (hi : itr mi ρ = some (xs, f)) (hf : f ≠ .t) (h : forX bind body f xs ρ = some r) :
    runX (fun ρ => (mi ρ).bind fun v => if v.2 = .t then none else forX bind body v.2 v.1 ρ) ρ = some r := by
  dsimp only [runX]; rw [show mi ρ = _ from hi]; simp only [Option.bind_some, if_neg hf]; exact h
theorem fnX_run {ps : List String} {m : Rho → Option OutX} {xs : List PyData} (hl : xs.length = ps.length) (h : runX m (rho0 ps xs) = some r) : fnX ps m xs = outX r := by
  unfold fnX; rw [if_pos hl, show m (rho0 ps xs) = some r from h]; rfl
theorem put_fix {s : String} {v : PyData} : putR s (V.fix v .s) ρ = some (ρ.set s (.val (V.fix v .s))) := by
  unfold V.fix
  split <;> rfl
end
theorem flat_fix {x : PyData} {f g : Fl} (h : flat x = true) : V.fix x f = V.fix x g := by unfold V.fix; rw [h]; rfl
theorem tup_fix {xs : List PyData} {f : Fl} : tupOf (V.fix (.tuple xs) f) = some (xs.map fun z => V.fix z f) := by
  cases h : flats xs with
  | true =>
    rw [show V.fix (.tuple xs) f = ⟨.tuple xs, .d⟩ by simp [V.fix, flat, h]]
    show some _ = some _
    congr 1
    exact List.map_congr_left fun z hz => flat_fix ((flats_iff xs).mp h z hz)
  | false =>
    rw [show V.fix (.tuple xs) f = ⟨.tuple xs, f⟩ by simp [V.fix, flat, h]]
    rfl
theorem dn_inst {x : PyData} (h : dn x = true) : instD x = false := by
  cases x with
  | dict kvs => cases kvs with
    | nil => rfl
    | cons _ _ => cases h
  | _ => rfl
theorem dns_mem {xs : List PyData} {x : PyData} (h : dns xs = true) (hx : x ∈ xs) : dn x = true := by
  induction xs with
  | nil => cases hx
  | cons y ys ih =>
    simp only [dns, Bool.and_eq_true] at h
    rcases List.mem_cons.mp hx with rfl | hx
    · exact h.1
    · exact ih h.2 hx
theorem nds_map {α : Type} (f : α → Str) (xs : List α) : nds (xs.map fun c => .str (f c)) = true := (nds_iff _).mpr fun x hx => by
  obtain ⟨c, _, rfl⟩ := List.mem_map.mp hx; rfl
theorem in_strs (a : Str) (c : List Str) : aCmp .In (.str a) (.list (c.map .str)) = some (decide (a ∈ c)) := by
  show inSeq _ _ = _
  unfold inSeq
  rw [show nds (c.map PyData.str) = true from nds_map id c, show nd (.str a) = true from rfl, decide_eq_true (show min (PyData.depthAll (c.map PyData.str)) (PyData.depth (.str a)) ≤ 60 from Nat.le_trans (Nat.min_le_right _ _) (by show (0 : Nat) ≤ 60; decide))]
  simp only [Bool.and_self, if_true]
  congr 1
  induction c with
  | nil => rfl
  | cons b c ih =>
    rw [List.map_cons, List.any_cons, ih]
    by_cases hb : a = b
    · subst hb; simp [PyData.eqv]
    · have : (b == a) = false := by simpa using Ne.symm hb
      simp [PyData.eqv, this, hb]
theorem notin_strs (a : Str) (c : List Str) : aCmp .NotIn (.str a) (.list (c.map .str)) = some (!decide (a ∈ c)) := by
  show (cmpIn _ _).map _ = _
  rw [show cmpIn (.str a) (.list (c.map .str)) = some (decide (a ∈ c)) from in_strs a c]; rfl
end

section
open PySem PySem.Calls PySem.W PyProof.Rows
variable {prog : Program} {w : World} {Hz : List Addr} {hb : Heap}
theorem wellAll_ints {P : Params} : ∀ {vs : List Value} {l : List Int}, WellAll P hb vs (ofPys (l.map .int)) → RDs prog w Hz hb vs (l.map .int) []
  | vs, [], h => by cases h; exact .nil
  | vs, i :: l, h => by
    cases h with
    | cons h1 h2 =>
      cases h1
      exact .cons (as := []) (.int _ _) (wellAll_ints h2)
theorem rd_ints {P : Params} {a : Addr} {l : List Int} (h : Well P hb (.ref a) (ofPy (.list (l.map .int)))) : RD prog w Hz hb (.ref a) (.list (l.map .int)) [a] := by
  have h' : Well P hb (.ref a) (.list (ofPys (l.map .int))) := by simpa [ofPy] using h
  cases h' with
  | list h1 h2 => exact .list (n := 0) h1 (wellAll_ints h2)
theorem base_of {s : Heap} {p : Program} {loose : List Str} {mean : ExcName → Option Value} {mg mb : Str → Option Value} (T : Top p loose mean mg mb s) (hi : importsNone p = true) (ht : prog.given.tree = none) : Base prog [] s s := by
  have sr := T.seer hi
  refine ⟨fun _ q => (nomatch q), T.nolimit, sr, ht, ?_, Grow.refl _⟩
  obtain ⟨mm, ⟨o, _, _, ho, _⟩, _⟩ := sr.mods
  exact ⟨o, ho⟩
end

section
open PySem PySem.Calls PySem.W PyProof.Rows
variable {prog : Program} {w : World} {hb : Heap}
noncomputable def fnP (p : Program) (i : Nat) : Arguments := match p.main.body[i]? with
  | some (.FunctionDef _ a _ _ _ _ _ _ _ _) => a
  | _ => ⟨[], [], none, [], [], none, []⟩
noncomputable def recB (p : Program) (i : Nat) : List Stmt := match (recsOf p)[i]? with
  | some d => d.body
  | none => []
noncomputable def recS (p : Program) (i : Nat) : Scope := match (recsOf p)[i]? with
  | some d => d.scope
  | none => default
noncomputable def recP (p : Program) (i : Nat) : Arguments := match (recsOf p)[i]? with
  | some d => d.params
  | none => ⟨[], [], none, [], [], none, []⟩
noncomputable def recN (p : Program) (i : Nat) : Option Str := match (recsOf p)[i]? with
  | some d => some d.name
  | none => none
noncomputable def defLook (sc : Scope) (a : Arguments) (ps : List String) : Bool :=
  a.posonlyargs.isEmpty && a.vararg.isNone && a.kwonlyargs.isEmpty && a.kw_defaults.isEmpty && a.kwarg.isNone && a.defaults.isEmpty && decide (a.args.map (·.arg) = ps.map Str.ofString) && decide (sc.kind = .function) && !sc.isGenerator && !sc.isCoroutine && cellsOnce sc && decide ps.Nodup && ps.all fun x => isVar sc x
theorem defLook_ok {sc : Scope} {a : Arguments} {ps : List String} (h : defLook sc a ps = true) : a = ⟨[], a.args, none, [], [], none, []⟩ ∧ a.args.map (·.arg) = ps.map Str.ofString ∧ sc.kind = .function ∧ sc.isGenerator = false ∧ sc.isCoroutine = false ∧ cellsOnce sc = true ∧ ps.Nodup ∧ ∀ x ∈ ps, isVar sc x = true := by
  obtain ⟨a1, a2, a3, a4, a5, a6, a7⟩ := a
  simp only [defLook, Bool.and_eq_true, List.isEmpty_iff, Option.isNone_iff_eq_none, decide_eq_true_eq, Bool.not_eq_true', List.all_eq_true] at h
  obtain ⟨⟨⟨⟨⟨⟨⟨⟨⟨⟨⟨⟨rfl, rfl⟩, rfl⟩, rfl⟩, rfl⟩, rfl⟩, h1⟩, h2⟩, h3⟩, h4⟩, h5⟩, h6⟩, h7⟩ := h
  exact ⟨rfl, h1, h2, h3, h4, h5, h6, h7⟩
theorem defTop {p q : Program} {loose : List Str} {mean : ExcName → Option Value} {mg mb : Str → Option Value} (T : Top p loose mean mg mb hb) (i k : Nat) {x : String} {ps : List String} (hN : recN p i = some (Str.ofString x)) (hB : recB p i = fnB q k) (hS : recS p i = fnS q k) (hP : recP p i = fnP q k) (hl : defLook (fnS q k) (fnP q k) ps = true) :
    DefAt hb x (fnS q k) ps (fnB q k) := by
  obtain ⟨hA, hnm, hk, hgen, hco, hon, hnd, hv⟩ := defLook_ok hl
  cases hd : (recsOf p)[i]? with
  | none => rw [recN, hd] at hN; cases hN
  | some d =>
    have eN : d.name = Str.ofString x := by rw [recN, hd] at hN; exact Option.some.inj hN
    have eB : d.body = fnB q k := by rw [recB, hd] at hB; exact hB
    have eS : d.scope = fnS q k := by rw [recS, hd] at hS; exact hS
    have eP : d.params = ⟨[], (fnP q k).args, none, [], [], none, []⟩ := by rw [recP, hd] at hP; exact hP.trans hA
    obtain ⟨a, o, pm, code, doc, h1, h2, h3, h4⟩ := T.fn d (List.mem_of_getElem? hd)
    rw [eN] at h1
    exact ⟨a, .inl ⟨mg, T.g, h1⟩, ⟨o, _, _, h2, h3, eP, hnm, by rw [← eB]; rfl, eS, rfl, rfl, rfl, rfl, h4⟩, hk, hgen, hco, hon, hnd, hv⟩
noncomputable def bLook (p : Program) (loose : List Str) (x : String) : Bool := !startupNames.contains (Str.ofString x) && !loose.contains (Str.ofString x) && !((recsOf p).map (·.name)).contains (Str.ofString x) && !((litsOf p).map (·.1)).contains (Str.ofString x) && !((clssOf p loose).map (·.name)).contains (Str.ofString x) && !(Str.ofString x == ("__name__" : Str))
theorem bTop {p : Program} {loose : List Str} {mean : ExcName → Option Value} {mg mb : Str → Option Value} (T : Top p loose mean mg mb hb) {x : String} {v : Value} (hl : bLook p loose x = true) (hv : bootBuiltins (Str.ofString x) = some v) : GName hb x v := by
  simp only [bLook, Bool.and_eq_true, Bool.not_eq_true', List.contains_eq_mem, decide_eq_false_iff_not, beq_eq_false_iff_ne] at hl
  exact .inr ⟨mg, mb, T.g, T.free _ hl.1.1.1.1.1 hl.1.1.1.1.2 hl.1.1.1.2 hl.1.1.2 hl.1.2, T.b, (T.builtins _ hl.2).trans hv⟩
noncomputable def mthP (p : Program) (i j : Nat) : Arguments := match mthOf p i j with
  | some (.FunctionDef _ a _ _ _ _ _ _ _ _) => a
  | _ => ⟨[], [], none, [], [], none, []⟩
end

section
open PySem PySem.Calls PySem.W PyProof.Rows
variable {prog : Program} {w : World}
theorem law_run1 {n : Nat} {sc : Scope} {body : List Stmt} {p₀ : String} {m : Rho → Option Out} {s : Shared} {mg : Str → Option Value} {fa a : Addr} {l : List Int} {P : Params} {Q : Value → Shared → Prop} {E : Value → Shared → Prop} (hD : DefAt s.heap "law" sc [p₀] body) (hS : StT prog w s.heap n sc body m) (hm : run m (rho0 [p₀] [.list (l.map .int)]) = some (.ret (.bool true)))
    (b : Base prog [] s.heap s.heap) (G : s.heap.Ns mainGlobals mg) (hfa : mg (Str.ofString "law") = some (.ref fa)) (hw : Well P s.heap (.ref a) (ofPy (.list (l.map .int)))) (hl : l.length ≤ 63) (hn : n + 1 ≤ 100) (hQ : ∀ s', Keeps s s' → Q (.bool true) s') :
    wpAny (model prog w) callerA (call (.ref fa) [.ref a]) Q E s := by
  obtain ⟨a', g, D⟩ := hD
  have e : a' = fa := by
    rcases g with ⟨mg', G', e⟩ | ⟨mg', mb', G', e, _⟩
    · have := G.agree G' (Str.ofString "law")
      rw [hfa, e] at this
      cases this; rfl
    · have := G.agree G' (Str.ofString "law")
      rw [hfa, e] at this
      cases this
  subst e
  have hA : Room callerA (n + 1) := by
    refine ⟨rfl, ?_, ?_, ⟨[], rfl⟩⟩
    · have : (1 + claimMargin) + 100 + 100 < recursionLimit := by decide
      show (1 + claimMargin) + (n + 1) + 100 < recursionLimit
      lia
    · have : 4 + 8 * 100 + 100 < cLine := by decide
      show 4 + 8 * (n + 1) + 100 < cLine
      lia
  have hwf : wf (.list (l.map PyData.int)) = true := by
    simp only [wf, Bool.and_eq_true, decide_eq_true_eq]
    refine ⟨Nat.le_trans (by simpa using hl) (by decide : 63 ≤ sizeLine), (wfs_iff _).mpr fun x hx => ?_⟩
    obtain ⟨i, _, rfl⟩ := List.mem_map.mp hx
    rfl
  refine law_runT D hS hA rfl b (rd_ints hw) hwf hm fun u as s' k r => ?_
  cases r
  exact hQ s' k
end

section
noncomputable abbrev pw : Program := PySem.Challenge.pw_uf010022_01
variable {w : World} {hb : Heap}
noncomputable def intsP (l : List Int) : List PyData := l.map .int
noncomputable def sAt (l : List Int) (k : Int) : Int := (l[k.toNat]?).getD 0
theorem ints_length (l : List Int) : (intsP l).length = l.length := by simp [intsP]
theorem at_ok (B : Bui hb) (D : DefAt hb "_law_at" (fnS pw 18) ["_law_script", "_law_k"] (fnB pw 18)) :
    ∃ m, DefG pw w hb 2 "_law_at" m ∧ ∀ (l : List Int) (k : Int), 0 ≤ k → m [.list (intsP l), .int k] = some (.int (sAt l k)) := by
  refine ⟨_, DefG.of D (n := 1) (St.cons (S1.if (Tr.cmp Ev.v (Ev.len B (Evs.cons Ev.v Evs.nil) (by decide +kernel) (by intro _; rfl))) (St.cons (S1.ret (Ev.idx Ev.v Ev.v))
      St.nil) St.nil)
    (St.cons (S1.ret Ev.cint)
    St.nil)) _ (fun _ _ h => h), ?_⟩
  intro l k hk
  refine fn_ret rfl ?_
  by_cases h : k < l.length
  · have e : seqAt (intsP l) k = some (.int (sAt l k)) := by
      rw [seqAt_nat hk]; unfold intsP sAt
      rw [List.getElem?_map, List.getElem?_eq_getElem (by omega)]; rfl
    refine seqRet (ifR_yes (by simp only [tst_eq, cond_true, cond_false, e_rho_nil, e_rho, e_fint, e_flist, e_rv, e_lt, e_len_l, String.reduceBEq, Option.bind_eq_bind, Option.bind_some, Option.map_some, ints_length, decide_eq_true h]) (seqRet ?_))
    simp only [run_eq, cond_true, cond_false, e_rho_nil, e_rho, e_fint, e_flist, e_rv, e_ret, String.reduceBEq, e_idx_l, Option.bind_eq_bind, Option.bind_some, e]
  · have e : sAt l k = 0 := by
      unfold sAt; rw [List.getElem?_eq_none (by omega)]; rfl
    refine seq (ifR_no (by simp only [tst_eq, cond_true, cond_false, e_rho_nil, e_rho, e_fint, e_flist, e_rv, e_lt, e_len_l, String.reduceBEq, Option.bind_eq_bind, Option.bind_some, Option.map_some, ints_length, decide_eq_false h]) rfl) (seqRet ?_)
    simp only [run_eq, e_ret, Option.bind_some, e]
end

section
variable {w : World} {hb : Heap}
noncomputable def turnS (c k : Int) : Int := c + 31 * k * (c % 2)
noncomputable def sizeS (c k : Int) (n : Nat) : Int := turnS c k / 26 % (9 - n)
noncomputable def tailS (c k : Int) (n : Nat) : List Nat := (List.range (sizeS c k n).toNat).map fun (j : Nat) => 97 + ((turnS c k + 5 * (j : Int) * (1 + turnS c k % 3)) % 26).toNat
noncomputable def cutS (c k : Int) (n : Nat) : Int := if c % 2 = 0 then c / 4 % (sizeS c k n + 1) else sizeS c k n
noncomputable def calledS (c k : Int) (s : List Nat) : List Nat := (tailS c k s.length).take (cutS c k s.length).toNat ++ s ++ (tailS c k s.length).drop (cutS c k s.length).toNat
theorem called_ok (B : Bui hb) (D : DefAt hb "_law_called" (fnS pw 19) ["_law_cell", "_law_k", "_law_signs"] (fnB pw 19)) :
    ∃ m, DefG pw w hb 2 "_law_called" m ∧ ∀ (c k : Int) (s : List Nat), 0 ≤ k → 1 ≤ s.length → s.length ≤ 8 → m [.int c, .int k, .str (S s)] = some (.str (S (calledS c k s))) := by
  refine ⟨_, DefG.of D (n := 1) (St.cons (S1.assign Ev.s (by decide +kernel))
    (St.cons (S1.assign (Ev.bin Ev.v (Ev.bin (Ev.bin Ev.cint Ev.v) (Ev.bin Ev.v Ev.cint))) (by decide +kernel))
    (St.cons (S1.assign (Ev.bin (Ev.bin Ev.v Ev.cint) (Ev.bin Ev.cint (Ev.len B (Evs.cons Ev.v Evs.nil) (by decide +kernel) (by intro _; rfl)))) (by decide +kernel))
    (St.cons (S1.assign (Ev.join (Ev.comp (locs := [".0", "_law_j"]) (by decide +kernel) (It.range (by decide +kernel) B.range Ev.v (by intro _; rfl)) (TgL.name (by decide +kernel) (by decide +kernel)) Ifs.nil (Ev.idx Ev.v (Ev.bin (Ev.bin Ev.v (Ev.bin (Ev.bin Ev.cint Ev.v) (Ev.bin Ev.cint (Ev.bin Ev.v Ev.cint)))) Ev.cint))) (by rfl) (by intro _; rfl)) (by decide +kernel))
    (St.cons (S1.assign Ev.v (by decide +kernel))
    (St.cons (S1.if (Tr.cmp (Ev.bin Ev.v Ev.cint) Ev.cint) (St.cons (S1.assign (Ev.bin (Ev.bin Ev.v Ev.cint) (Ev.bin Ev.v Ev.cint)) (by decide +kernel))
      St.nil) St.nil)
    (St.cons (S1.ret (Ev.bin (Ev.bin (Ev.slice Ev.v Pt.no (Pt.yes Ev.v) Pt.no (by intro _ _; exact ⟨_, rfl⟩)) Ev.v) (Ev.slice Ev.v (Pt.yes Ev.v) Pt.no Pt.no (by intro _ _; exact ⟨_, rfl⟩))))
    St.nil))))))) _ (fun _ _ h => h), ?_⟩
  intro c k s hk h1 h2
  refine fn_ret rfl ?_
  have hn : (0 : Int) < 9 - (s.length : Nat) := by omega
  have hz : 0 ≤ sizeS c k s.length ∧ sizeS c k s.length < 9 := ⟨Int.emod_nonneg _ (by omega), by have := Int.emod_lt_of_pos (turnS c k / 26) hn; unfold sizeS; omega⟩
  refine seq (by simp only [run_eq, e_putd, Option.bind_some, letters_eq]; rfl) ?_
  refine seq (by simp only [run_eq, e_add, e_mul_l, e_mod, e_set, cond_true, cond_false, e_rho_nil, e_rho, e_fint, e_fstr, e_rv, e_putd, String.reduceBEq, Option.bind_eq_bind, Option.bind_some, Int.reduceLT, Int.reduceNeg, e_mul (.inr (show smallInt (c % 2) = true from small_of (by omega) (by omega))), show c + 31 * k * (c % 2) = turnS c k from rfl]; rfl) ?_
  refine seq (by simp only [run_eq, e_sub, e_div, e_set, cond_true, cond_false, e_rho_nil, e_rho, e_fint, e_fstr, e_rv, e_putd, e_len_s, String.reduceBEq, S_length, Option.bind_eq_bind, Option.bind_some, Option.map_some, Int.reduceLT, e_mod hn, show turnS c k / 26 % (9 - (s.length : Int)) = sizeS c k s.length from rfl]; rfl) ?_
  have hj : aJoin (Str.ofString "") (List.map (fun j : Nat => PyData.str (S [97 + ((turnS c k + 5 * (j : Int) * (1 + turnS c k % 3)) % 26).toNat])) (List.range (sizeS c k s.length).toNat)) = some (.str (S (tailS c k s.length))) := by
    have e := join_ok (ts := (List.range (sizeS c k s.length).toNat).map fun j : Nat => [97 + ((turnS c k + 5 * (j : Int) * (1 + turnS c k % 3)) % 26).toNat]) (by rw [flat1]; simp; omega) (by simp; omega) (fun t ht x hx => by
      obtain ⟨j, _, rfl⟩ := List.mem_map.mp ht
      rw [List.mem_singleton.mp hx]; omega)
    rw [empty_eq]
    rw [List.map_map, flat1] at e
    exact e
  refine seq (by
    simp only [run_eq, e_set, cond_true, cond_false, e_rho_nil, e_rho, e_fint, e_fstr, e_rv, String.reduceBEq, Option.bind_eq_bind, Option.bind_some, if_true, and_self, Int.reducePow, Int.reduceNeg, compV, le_lineI (show sizeS c k s.length ≤ 1000 by omega), rng_lo hz.1]
    rw [comp_range (fun j => .str (S [97 + ((turnS c k + 5 * (j : Int) * (1 + turnS c k % 3)) % 26).toNat])) (fun j hj => by
      simp only [e_add, e_mul_l, e_mod, e_set, cond_true, cond_false, e_rho_nil, e_rho, e_fint, e_fstr, e_rv, e_putRd, e_inc, memS_nil, memS_cons, Bool.false_or, fix_d, String.reduceBEq, e_idx_s, Option.bind_some, Option.map_some, Option.bind_none, if_true, Int.reduceLT, Int.reduceNeg, cstep, e_mul (.inr (show smallInt (1 + turnS c k % 3) = true from small_of (by omega) (by omega))), letters_at (show 0 ≤ (turnS c k + 5 * (j : Int) * (1 + turnS c k % 3)) % 26 by omega) (show (turnS c k + 5 * (j : Int) * (1 + turnS c k % 3)) % 26 < 26 by omega)])]
    simp only [e_putd, Option.bind_some, Option.map_some, hj]
    rfl) ?_
  refine seq (by simp only [run_eq, e_set, cond_true, cond_false, e_rho_nil, e_rho, e_fint, e_fstr, e_rv, e_putd, String.reduceBEq, Option.bind_some]; rfl) ?_
  have hcut : 0 ≤ cutS c k s.length ∧ cutS c k s.length ≤ sizeS c k s.length := by
    unfold cutS; split
    · exact ⟨Int.emod_nonneg _ (by omega), by have := Int.emod_lt_of_pos (c / 4) (show 0 < sizeS c k s.length + 1 by omega); omega⟩
    · omega
  have hlen : ((tailS c k s.length).length : Int) = sizeS c k s.length := by simp [tailS]; omega
  have htl : (tailS c k s.length).length ≤ 8 := by omega
  have hd : calledS c k s = (tailS c k s.length).take (cutS c k s.length).toNat ++ s ++ (tailS c k s.length).drop (cutS c k s.length).toNat := rfl
  have e1 : clipHi (some (cutS c k s.length)) (tailS c k s.length).length = (cutS c k s.length).toNat := hi_some hcut.1 (by omega)
  have e2 : clipLo (some (cutS c k s.length)) (tailS c k s.length).length = (cutS c k s.length).toNat := lo_some hcut.1 (by omega)
  have e3 : aBinV .Add ⟨.str (S ((tailS c k s.length).take (cutS c k s.length).toNat)), .d⟩ ⟨.str (S s), .d⟩ = some ⟨.str (S ((tailS c k s.length).take (cutS c k s.length).toNat ++ s)), .d⟩ := e_addS (by simp; omega)
  have e4 : aBinV .Add ⟨.str (S ((tailS c k s.length).take (cutS c k s.length).toNat ++ s)), .d⟩ ⟨.str (S ((tailS c k s.length).drop (cutS c k s.length).toNat)), .d⟩ = some ⟨.str (S (calledS c k s)), .d⟩ := by
    rw [hd]; exact e_addS (by simp; omega)
  by_cases hc : c % 2 = 0
  · have ec : c / 4 % (sizeS c k s.length + 1) = cutS c k s.length := by unfold cutS; rw [if_pos hc]
    refine seq (by simp only [run_eq, e_add, e_div, e_mod, e_set, cond_true, cond_false, e_rho_nil, e_rho, e_fint, e_fstr, e_rv, e_putd, e_thn, e_eqi, String.reduceBEq, Option.bind_eq_bind, Option.bind_some, if_true, Int.reduceLT, Int.reduceBEq, hc, e_mod (show 0 < sizeS c k s.length + 1 by omega), ec]; rfl) ?_
    simp only [run_eq, e_set, cond_true, cond_false, e_rho_nil, e_rho, e_fint, e_fstr, e_rv, e_thr, e_ret, String.reduceBEq, e_sls, hi_none, lo_none, Option.bind_eq_bind, Option.bind_some, e1, e2, e3, e4, List.drop_zero, List.take_length]
  · have ec : sizeS c k s.length = cutS c k s.length := by unfold cutS; rw [if_neg hc]
    have hc' : (c % 2 == 0) = false := beq_eq_false_iff_ne.mpr hc
    refine seq (by simp only [run_eq, e_add, e_div, e_mod, e_set, cond_true, cond_false, e_rho_nil, e_rho, e_fint, e_fstr, e_rv, e_eqi, String.reduceBEq, Option.bind_eq_bind, Option.bind_some, if_false, Bool.false_eq_true, Int.reduceLT, hc']; rfl) ?_
    rw [ec]
    simp only [run_eq, e_set, cond_true, cond_false, e_rho_nil, e_rho, e_fint, e_fstr, e_rv, e_thr, e_ret, String.reduceBEq, e_sls, hi_none, lo_none, Option.bind_eq_bind, Option.bind_some, e1, e2, e3, e4, List.drop_zero, List.take_length]
noncomputable def manyS (l : List Int) : Int := if sAt l 0 / 4 % 8 = 1 then 12 - sAt l 0 / 32 % 8 else 1 + sAt l 0 % 4
noncomputable def pickS (l : List Int) (k : Nat) : Int := if sAt l 1 % 4 = 3 ∧ 0 < k then k - 1 else (sAt l 1 + 7 * k) * 48271 % 10007 % (k + 1)
noncomputable def nameS (l : List Int) (k : Nat) : List Nat := calledS (sAt l 1 / 3) k [97 + k]
noncomputable def outerS (l : List Int) (k : Nat) : Option (List Nat) := if pickS l k < k then some (nameS l (pickS l k).toNat) else none
noncomputable def optP : Option (List Nat) → PyData
  | none => .none
  | some n => .str (S n)
noncomputable def plotP (p : List Nat × Option (List Nat)) : PyData := .tuple [.str (S p.1), optP p.2]
noncomputable def plotS (l : List Int) (k : Nat) : List Nat × Option (List Nat) := (nameS l k, outerS l k)
noncomputable def plotsS (l : List Int) : List (List Nat × Option (List Nat)) := (List.range (manyS l).toNat).map (plotS l)
theorem fl_opt {o : Option (List Nat)} {xs : List PyData} : flats (optP o :: xs) = flats xs := by
  cases o <;> simp [optP, flats, flat]
theorem many_le (l : List Int) : 1 ≤ manyS l ∧ manyS l ≤ 12 := by unfold manyS; split <;> lia
theorem pick_le (l : List Int) (k : Nat) : 0 ≤ pickS l k ∧ pickS l k ≤ k := by
  unfold pickS; split
  · lia
  · have := Int.emod_lt_of_pos ((sAt l 1 + 7 * k) * 48271 % 10007) (show 0 < (k : Int) + 1 by lia)
    exact ⟨Int.emod_nonneg _ (by lia), by lia⟩
theorem twelve_eq : Str.ofString "abcdefghijkl" = S ((List.range 12).map (97 + ·)) := by decide +kernel
theorem plots_ok (B : Bui hb) (D : DefAt hb "_law_plots" (fnS pw 20) ["_law_script"] (fnB pw 20)) {m_at m_called : List PyData → Option PyData} (h_law_at : DefG pw w hb 2 "_law_at" m_at)
    (e_at : ∀ (l : List Int) (k : Int), 0 ≤ k → m_at [.list (intsP l), .int k] = some (.int (sAt l k))) (h_law_called : DefG pw w hb 2 "_law_called" m_called)
    (e_called : ∀ (c k : Int) (s : List Nat), 0 ≤ k → 1 ≤ s.length → s.length ≤ 8 → m_called [.int c, .int k, .str (S s)] = some (.str (S (calledS c k s)))) :
    ∃ m, DefG pw w hb 3 "_law_plots" m ∧ ∀ l : List Int, m [.list (intsP l)] = some (.list ((plotsS l).map plotP)) := by
  refine ⟨_, DefG.of D (n := 2) (St.cons (S1.assign (Ev.bin Ev.cint (Ev.bin (Ev.def h_law_at (Evs.cons Ev.v (Evs.cons Ev.cint Evs.nil)) (by decide +kernel) (by decide) (by intro _; rfl)) Ev.cint)) (by decide +kernel))
    (St.cons (S1.if (Tr.cmp (Ev.bin (Ev.bin (Ev.def h_law_at (Evs.cons Ev.v (Evs.cons Ev.cint Evs.nil)) (by decide +kernel) (by decide) (by intro _; rfl)) Ev.cint) Ev.cint) Ev.cint) (St.cons (S1.assign (Ev.bin Ev.cint (Ev.bin (Ev.bin (Ev.def h_law_at (Evs.cons Ev.v (Evs.cons Ev.cint Evs.nil)) (by decide +kernel) (by decide) (by intro _; rfl)) Ev.cint) Ev.cint)) (by decide +kernel))
      St.nil) St.nil)
    (St.cons (S1.ownList Evs.nil (by decide +kernel))
    (St.cons (S1.for (It.range (by decide +kernel) B.range Ev.v (by intro _; rfl)) (Tg.name (by decide +kernel)) (St.cons (S1.assign (Ev.bin (Ev.bin (Ev.bin (Ev.bin (Ev.def h_law_at (Evs.cons Ev.v (Evs.cons Ev.cint Evs.nil)) (by decide +kernel) (by decide) (by intro _; rfl)) (Ev.bin Ev.cint Ev.v)) Ev.cint) Ev.cint) (Ev.bin Ev.v Ev.cint)) (by decide +kernel))
      (St.cons (S1.if (Tr.all (Trs.consAnd (Tr.cmp (Ev.bin (Ev.def h_law_at (Evs.cons Ev.v (Evs.cons Ev.cint Evs.nil)) (by decide +kernel) (by decide) (by intro _; rfl)) Ev.cint) Ev.cint) (Trs.consAnd (Tr.cmp Ev.v Ev.cint) Trs.nilAnd))) (St.cons (S1.assign (Ev.bin Ev.v Ev.cint) (by decide +kernel))
        St.nil) St.nil)
      (St.cons (S1.assign Ev.cnone (by decide +kernel))
      (St.cons (S1.if (Tr.cmp Ev.v Ev.v) (St.cons (S1.assign (Ev.idx (Ev.idx Ev.v Ev.v) Ev.cint) (by decide +kernel))
        St.nil) St.nil)
      (St.cons (S1.append (Ev.tuple (Evs.cons (Ev.def h_law_called (Evs.cons (Ev.bin (Ev.def h_law_at (Evs.cons Ev.v (Evs.cons Ev.cint Evs.nil)) (by decide +kernel) (by decide) (by intro _; rfl)) Ev.cint) (Evs.cons Ev.v (Evs.cons (Ev.idx Ev.s Ev.v) Evs.nil))) (by decide +kernel) (by decide) (by intro _; rfl)) (Evs.cons Ev.v Evs.nil))) (by decide +kernel) (by intro _; rfl) (by rfl) (by intro env h; unfold interactive; rw [h]; rfl))
      St.nil))))))
    (St.cons (S1.retOwn (by decide +kernel))
    St.nil))))) _ (fun _ _ h => h), ?_⟩
  intro l
  have a0 := e_at l 0 (by decide)
  have a1 := e_at l 1 (by decide)
  have hmany := many_le l
  refine fn_ret rfl ?_
  refine seq (by simp only [run_eq, e_add, e_mod, cond_true, e_rho_nil, e_rho, e_flist, e_rv, e_putd, String.reduceBEq, Option.bind_eq_bind, Option.bind_some, Option.map_some, List.map_cons, List.map_nil, Int.reduceLT, a0]; rfl) ?_
  refine seqE (fun ρ => ρ "_law_many" = some (.val ⟨.int (manyS l), .d⟩) ∧ ρ "_law_script" = some (.val ⟨.list (intsP l), .s⟩)) ?_ ?_
  · by_cases h0 : sAt l 0 / 4 % 8 = 1
    · have hv : manyS l = 12 - sAt l 0 / 32 % 8 := if_pos h0
      exact ⟨_, by simp only [run_eq, e_sub, e_div, e_mod, e_set, cond_true, cond_false, e_rho_nil, e_rho, e_flist, e_rv, e_putd, e_thn, e_eqi, String.reduceBEq, Option.bind_eq_bind, Option.bind_some, Option.map_some, if_true, List.map_cons, List.map_nil, Int.reduceLT, Int.reduceBEq, a0, h0]; rfl, by simp only [e_set, cond_true, cond_false, e_rho_nil, e_rho, e_flist, String.reduceBEq, hv], by simp only [e_set, cond_true, cond_false, e_rho_nil, e_rho, e_flist, String.reduceBEq]⟩
    · have hv : manyS l = 1 + sAt l 0 % 4 := if_neg h0
      have h0' : (sAt l 0 / 4 % 8 == 1) = false := beq_eq_false_iff_ne.mpr h0
      exact ⟨_, by simp only [run_eq, e_sub, e_div, e_mod, e_set, cond_true, cond_false, e_rho_nil, e_rho, e_flist, e_rv, e_putd, e_thn, e_eqi, String.reduceBEq, Option.bind_eq_bind, Option.bind_some, Option.map_some, if_false, Bool.false_eq_true, List.map_cons, List.map_nil, Int.reduceLT, a0, h0']; rfl, by simp only [e_set, cond_true, cond_false, e_rho_nil, e_rho, e_flist, String.reduceBEq, hv], by simp only [e_set, cond_true, cond_false, e_rho_nil, e_rho, e_flist, String.reduceBEq]⟩
  rintro ρ ⟨hm, hs⟩
  refine seq (by simp only [run_eq, le_line, fls_nil, Option.bind_some, if_true, List.map_nil, List.length_nil, and_self, Nat.reduceLeDiff]; rfl) ?_
  refine seqE (fun ρ => ρ "_law_plots_here" = some (.own (.lst ((plotsS l).map plotP)))) ?_ ?_
  · refine for_run (rangeOf (manyS l)) .d (by simp only [itr_eq, e_set, cond_false, e_rv, String.reduceBEq, Option.bind_some, if_true, and_self, Int.reducePow, Int.reduceNeg, hm, le_lineI (show manyS l ≤ 1000 by lia), rng_lo (show 0 ≤ manyS l by lia)]) (by decide) ?_
    refine (forD_inv' (fun i ρ => ρ "_law_plots_here" = some (.own (.lst (((List.range i).map (plotS l)).map plotP))) ∧ ρ "_law_script" = some (.val ⟨.list (intsP l), .s⟩)) ⟨by simp only [e_set, cond_true, String.reduceBEq]; rfl, by simp only [e_set, cond_false, String.reduceBEq, hs]⟩ ?_).imp fun ρ' h => ⟨h.1, ?_⟩
    · intro i x ρ hx ⟨hp, hs⟩
      obtain ⟨hi, rfl⟩ := rangeOf_get hx
      refine ⟨_, by simp only [e_putRd, fix_d]; rfl, ?_⟩
      have hpk := pick_le l i
      refine seqN (by simp only [run_eq, e_add, e_mul_l, e_mul_r, e_mod, e_set, cond_true, cond_false, e_rv, e_putd, String.reduceBEq, Option.bind_eq_bind, Option.bind_some, Option.map_some, List.map_cons, List.map_nil, Int.reduceLT, Int.reduceNeg, hs, a1, e_mod (show 0 < (i : Int) + 1 by lia)]; rfl) ?_
      refine seqX (fun ρ => ρ "_law_pick" = some (.val ⟨.int (pickS l i), .d⟩) ∧ ρ "_law_k" = some (.val ⟨.int i, .d⟩) ∧ ρ "_law_plots_here" = some (.own (.lst (((List.range i).map (plotS l)).map plotP))) ∧ ρ "_law_script" = some (.val ⟨.list (intsP l), .s⟩)) ?_ ?_
      · by_cases h3 : sAt l 1 % 4 = 3
        · by_cases hk : (i : Int) > 0
          · have hv : pickS l i = i - 1 := if_pos ⟨h3, by lia⟩
            exact ⟨_, by simp only [run_eq, e_sub, e_mod, e_set, cond_true, cond_false, e_rv, e_putd, e_thn, e_gt, e_eqi, String.reduceBEq, Option.bind_eq_bind, Option.bind_some, Option.map_some, if_true, List.map_cons, List.map_nil, Int.reduceLT, Int.reduceBEq, hs, a1, h3, decide_eq_true hk]; rfl, by simp only [e_set, cond_true, cond_false, String.reduceBEq, hv], by simp only [e_set, cond_true, cond_false, String.reduceBEq], by simp only [e_set, cond_false, String.reduceBEq, hp], by simp only [e_set, cond_false, String.reduceBEq, hs]⟩
          · have hv : pickS l i = (sAt l 1 + 7 * i) * 48271 % 10007 % (i + 1) := if_neg fun h => hk (by lia)
            exact ⟨_, by simp only [run_eq, e_sub, e_mod, e_set, cond_true, cond_false, e_rv, e_putd, e_thn, e_gt, e_eqi, String.reduceBEq, Option.bind_eq_bind, Option.bind_some, Option.map_some, if_true, if_false, Bool.false_eq_true, List.map_cons, List.map_nil, Int.reduceLT, Int.reduceBEq, hs, a1, h3, decide_eq_false hk]; rfl, by simp only [e_set, cond_true, cond_false, String.reduceBEq, hv], by simp only [e_set, cond_true, cond_false, String.reduceBEq], by simp only [e_set, cond_false, String.reduceBEq, hp], by simp only [e_set, cond_false, String.reduceBEq, hs]⟩
        · have hv : pickS l i = (sAt l 1 + 7 * i) * 48271 % 10007 % (i + 1) := if_neg fun h => h3 h.1
          have h3' : (sAt l 1 % 4 == 3) = false := beq_eq_false_iff_ne.mpr h3
          exact ⟨_, by simp only [run_eq, e_sub, e_mod, e_set, cond_true, cond_false, e_rv, e_putd, e_thn, e_gt, e_eqi, String.reduceBEq, Option.bind_eq_bind, Option.bind_some, Option.map_some, if_false, Bool.false_eq_true, decide_eq_true_eq, List.map_cons, List.map_nil, Int.reduceLT, hs, a1, h3']; rfl, by simp only [e_set, cond_true, cond_false, String.reduceBEq, hv], by simp only [e_set, cond_true, cond_false, String.reduceBEq], by simp only [e_set, cond_false, String.reduceBEq, hp], by simp only [e_set, cond_false, String.reduceBEq, hs]⟩
      rintro ρ ⟨h1, h2, h3, h4⟩
      refine seqN (by simp only [run_eq, e_putd, Option.bind_some]; rfl) ?_
      refine seqX (fun ρ => ρ "_law_outer" = some (.val ⟨optP (outerS l i), .d⟩) ∧ ρ "_law_k" = some (.val ⟨.int i, .d⟩) ∧ ρ "_law_plots_here" = some (.own (.lst (((List.range i).map (plotS l)).map plotP))) ∧ ρ "_law_script" = some (.val ⟨.list (intsP l), .s⟩)) ?_ ?_
      · by_cases hlt : pickS l i < i
        · have hv : outerS l i = some (nameS l (pickS l i).toNat) := if_pos hlt
          have hg : seqAt (((List.range i).map (plotS l)).map plotP) (pickS l i) = some (plotP (plotS l (pickS l i).toNat)) := by
            rw [seqAt_nat hpk.1, List.getElem?_map, map_range_get _ (by lia)]; rfl
          have hg0 : seqAt [PyData.str (S (plotS l (pickS l i).toNat).1), optP (plotS l (pickS l i).toNat).2] 0 = some (.str (S (nameS l (pickS l i).toNat))) := rfl
          refine ⟨_, by simp only [run_eq, e_set, cond_false, e_ftup, e_rv, e_rl, e_putd, e_thn, e_lt, fix_d, fl_nil, fl_str, String.reduceBEq, e_idx_l, e_idx_t, Option.bind_eq_bind, Option.bind_some, if_true, h1, h2, h3, decide_eq_true hlt, hg, plotP, fl_opt, hg0]; rfl, by simp only [e_set, cond_true, String.reduceBEq, hv, optP], by simp only [e_set, cond_false, String.reduceBEq, h2], by simp only [e_set, cond_false, String.reduceBEq, h3], by simp only [e_set, cond_false, String.reduceBEq, h4]⟩
        · have hv : outerS l i = none := if_neg hlt
          exact ⟨_, by simp only [run_eq, e_set, cond_false, e_rv, e_lt, String.reduceBEq, Option.bind_eq_bind, Option.bind_some, if_false, Bool.false_eq_true, h1, h2, decide_eq_false hlt]; rfl, by simp only [e_set, cond_true, String.reduceBEq, hv, optP], by simp only [e_set, cond_false, String.reduceBEq, h2], by simp only [e_set, cond_false, String.reduceBEq, h3], by simp only [e_set, cond_false, String.reduceBEq, h4]⟩
      rintro ρ ⟨h1, h2, h3, h4⟩
      have hi12 : i < 12 := by lia
      have ht : seqAt ((List.range 12).map (97 + ·)) (i : Int) = some (97 + i) := by rw [seqAt_nat (by lia)]; exact map_range_get _ (by lia)
      have hc := e_called (sAt l 1 / 3) i [97 + i] (by lia) (by simp) (by simp)
      have hlen : (((List.range i).map (plotS l)).map plotP).length + 1 ≤ sizeLine := le_line (by simp; lia)
      refine seqN (by simp only [run_eq, e_div, e_rv, fix_d, e_idx_s, le_line, fls_nil, fls_d, Option.bind_eq_bind, Option.bind_some, Option.map_some, if_true, List.map_cons, List.map_nil, List.length_cons, List.length_nil, and_true, Int.reduceLT, Nat.reduceAdd, Nat.reduceLeDiff, h1, h2, h3, h4, a1, twelve_eq, ht, hc, hlen]; rfl) ?_
      refine doneN ⟨?_, by simp only [e_set, cond_false, String.reduceBEq, h4]⟩
      simp only [e_set, cond_true, String.reduceBEq, List.map_cons, List.map_nil, range_snoc, List.map_append]
      rfl
    · rw [h.2.1, rangeOf_len]; rfl
  · intro ρ hp
    simp only [run_eq, e_thr, Option.bind_some, hp]
noncomputable def nmanyS (l : List Int) : Int := if sAt l 2 / 5 % 16 = 3 then 60 else 1 + sAt l 2 % 5
noncomputable def signS (k : Nat) : List Nat := [97 + k / 26, 122 - k % 26]
noncomputable abbrev strP (n : List Nat) : PyData := .str (S n)
noncomputable def namesS (l : List Int) (ps : List (List Nat × Option (List Nat))) : List (List Nat) :=
  if sAt l 2 / 5 % 4 = 1 then (ps.map (·.1)).take (nmanyS l).toNat else (List.range (nmanyS l).toNat).map fun (k : Nat) => calledS (sAt l 2 / 80) k (signS k)
theorem nmany_le (l : List Int) : 1 ≤ nmanyS l ∧ nmanyS l ≤ 60 := by unfold nmanyS; split <;> lia
theorem abc_eq : Str.ofString "abc" = S [97, 98, 99] := by decide +kernel
theorem ends_eq : Str.ofString "zyxwvutsrqponmlkjihgfedcba" = S ((List.range 26).map (122 - ·)) := by decide +kernel
theorem abc_at {k : Nat} (h : k < 78) : seqAt [97, 98, 99] ((k : Int) / 26) = some (97 + k / 26) := by
  rw [seqAt_nat (by lia), show ((k : Int) / 26).toNat = k / 26 by lia]
  have : k / 26 < 3 := by lia
  generalize k / 26 = j at this
  match j, this with
  | 0, _ => rfl
  | 1, _ => rfl
  | 2, _ => rfl
theorem ends_at (k : Nat) : seqAt ((List.range 26).map (122 - ·)) ((k : Int) % 26) = some (122 - k % 26) := by
  rw [seqAt_nat (by lia), show ((k : Int) % 26).toNat = k % 26 by lia]
  exact map_range_get _ (by lia)
theorem names_ok (B : Bui hb) (D : DefAt hb "_law_names" (fnS pw 21) ["_law_script", "_law_plots_here"] (fnB pw 21)) {m_at m_called : List PyData → Option PyData} (h_law_at : DefG pw w hb 2 "_law_at" m_at)
    (e_at : ∀ (l : List Int) (k : Int), 0 ≤ k → m_at [.list (intsP l), .int k] = some (.int (sAt l k))) (h_law_called : DefG pw w hb 2 "_law_called" m_called)
    (e_called : ∀ (c k : Int) (s : List Nat), 0 ≤ k → 1 ≤ s.length → s.length ≤ 8 → m_called [.int c, .int k, .str (S s)] = some (.str (S (calledS c k s)))) :
    ∃ m, DefG pw w hb 3 "_law_names" m ∧ ∀ (l : List Int) (ps : List (List Nat × Option (List Nat))), m [.list (intsP l), .list (ps.map plotP)] = some (.list ((namesS l ps).map strP)) := by
  refine ⟨_, DefG.of D (n := 2) (St.cons (S1.assign (Ev.def h_law_at (Evs.cons Ev.v (Evs.cons Ev.cint Evs.nil)) (by decide +kernel) (by decide) (by intro _; rfl)) (by decide +kernel))
    (St.cons (S1.assign (Ev.bin Ev.cint (Ev.bin Ev.v Ev.cint)) (by decide +kernel))
    (St.cons (S1.if (Tr.cmp (Ev.bin (Ev.bin Ev.v Ev.cint) Ev.cint) Ev.cint) (St.cons (S1.assign Ev.cint (by decide +kernel))
      St.nil) St.nil)
    (St.cons (S1.if (Tr.cmp (Ev.bin (Ev.bin Ev.v Ev.cint) Ev.cint) Ev.cint) (St.cons (S1.ret (Ev.slice (Ev.comp (locs := [".0", "_law_plot", "_law_outer"]) (by decide +kernel) (It.data Ev.v (by intro _ _; rfl)) (TgL.tuple (xs := ["_law_plot", "_law_outer"]) (by decide +kernel) (by decide +kernel) rfl (by intro _; rfl)) Ifs.nil Ev.v) Pt.no (Pt.yes Ev.v) Pt.no (by intro _ _; exact ⟨_, rfl⟩)))
      St.nil) St.nil)
    (St.cons (S1.assign Ev.s (by decide +kernel))
    (St.cons (S1.ret (Ev.comp (locs := [".0", "_law_k"]) (by decide +kernel) (It.range (by decide +kernel) B.range Ev.v (by intro _; rfl)) (TgL.name (by decide +kernel) (by decide +kernel)) Ifs.nil (Ev.def h_law_called (Evs.cons (Ev.bin Ev.v Ev.cint) (Evs.cons Ev.v (Evs.cons (Ev.bin (Ev.idx Ev.s (Ev.bin Ev.v Ev.cint)) (Ev.idx Ev.v (Ev.bin Ev.v Ev.cint))) Evs.nil))) (by decide +kernel) (by decide) (by intro _; rfl))))
    St.nil)))))) _ (fun _ _ h => h), ?_⟩
  intro l ps
  have a2 := e_at l 2 (by decide)
  have hmany := nmany_le l
  refine fn_ret rfl ?_
  refine seq (by simp only [run_eq, cond_true, cond_false, e_rho_nil, e_rho, e_flist, e_rv, e_putd, String.reduceBEq, Option.bind_eq_bind, Option.bind_some, Option.map_some, List.map_cons, List.map_nil, a2]; rfl) ?_
  refine seq (by simp only [run_eq, e_add, e_mod, e_set, cond_true, cond_false, e_rho_nil, e_rho, e_flist, e_rv, e_putd, String.reduceBEq, Option.bind_eq_bind, Option.bind_some, Int.reduceLT]; rfl) ?_
  refine seqE (fun ρ => ρ "_law_many" = some (.val ⟨.int (nmanyS l), .d⟩) ∧ ρ "_law_cell" = some (.val ⟨.int (sAt l 2), .d⟩) ∧ ρ "_law_plots_here" = some (.val ⟨.list (ps.map plotP), .s⟩)) ?_ ?_
  · by_cases h0 : sAt l 2 / 5 % 16 = 3
    · have hv : nmanyS l = 60 := if_pos h0
      exact ⟨_, by simp only [run_eq, e_div, e_mod, e_set, cond_true, cond_false, e_rho_nil, e_rho, e_flist, e_rv, e_putd, e_thn, e_eqi, String.reduceBEq, Option.bind_eq_bind, Option.bind_some, if_true, Int.reduceLT, Int.reduceBEq, h0]; rfl, by simp only [e_set, cond_true, cond_false, e_rho_nil, e_rho, e_flist, String.reduceBEq, hv], by simp only [e_set, cond_true, cond_false, e_rho_nil, e_rho, e_flist, String.reduceBEq], by simp only [e_set, cond_true, cond_false, e_rho_nil, e_rho, e_flist, String.reduceBEq]⟩
    · have hv : nmanyS l = 1 + sAt l 2 % 5 := if_neg h0
      have h0' : (sAt l 2 / 5 % 16 == 3) = false := beq_eq_false_iff_ne.mpr h0
      exact ⟨_, by simp only [run_eq, e_div, e_mod, e_set, cond_true, cond_false, e_rho_nil, e_rho, e_flist, e_rv, e_putd, e_thn, e_eqi, String.reduceBEq, Option.bind_eq_bind, Option.bind_some, if_false, Bool.false_eq_true, Int.reduceLT, h0']; rfl, by simp only [e_set, cond_true, cond_false, e_rho_nil, e_rho, e_flist, String.reduceBEq, hv], by simp only [e_set, cond_true, cond_false, e_rho_nil, e_rho, e_flist, String.reduceBEq], by simp only [e_set, cond_true, cond_false, e_rho_nil, e_rho, e_flist, String.reduceBEq]⟩
  rintro ρ ⟨hm, hc, hp⟩
  by_cases h1 : sAt l 2 / 5 % 4 = 1
  · have hv : namesS l ps = (ps.map (·.1)).take (nmanyS l).toNat := if_pos h1
    refine seqRet (ifR_yes (by simp only [tst_eq, e_div, e_mod, e_rv, e_eqi, Option.bind_eq_bind, Option.bind_some, Int.reduceLT, Int.reduceBEq, hc, h1]) (seqRet ?_))
    simp only [run_eq, e_rv, Option.bind_eq_bind, Option.bind_some, hp, compV, itemsOf]
    rw [comp_map plotP (fun p => .str (S p.1)) (fun p _ => by simp only [e_set, cond_true, cond_false, e_ftup, e_rv, e_putRd, e_tup, e_putn, e_putc, e_inc, memS_nil, memS_cons, Bool.false_or, fix_d, fl_nil, fl_str, String.reduceBEq, Option.bind_some, if_true, List.map_cons, List.map_nil, cstep, plotP, fl_opt])]
    simp only [e_rv, e_ret, e_sll, lo_none, newL_d, Option.bind_some, Option.map_some, hm, List.length_map]
    have e : ((ps.map fun p => PyData.str (S p.1)).take (clipHi (some (nmanyS l)) ps.length)).drop (clipLo none ps.length) = (namesS l ps).map strP := by
      rw [hv, lo_none, List.drop_zero, List.map_take, List.map_map]
      simp only [clipHi]
      rw [if_neg (by lia), show (fun p : List Nat × Option (List Nat) => PyData.str (S p.1)) = strP ∘ (fun p => p.1) from rfl]
      by_cases hle : (nmanyS l).toNat ≤ ps.length
      · rw [Nat.min_eq_left hle]
      · rw [Nat.min_eq_right (by lia), List.take_of_length_le (by simp), List.take_of_length_le (by simp; lia)]
    rw [lo_none] at e
    rw [e]
  · have hv : namesS l ps = (List.range (nmanyS l).toNat).map fun (k : Nat) => calledS (sAt l 2 / 80) k (signS k) := if_neg h1
    have h1' : (sAt l 2 / 5 % 4 == 1) = false := beq_eq_false_iff_ne.mpr h1
    refine seq (ifR_no (by simp only [tst_eq, e_div, e_mod, e_rv, e_eqi, Option.bind_eq_bind, Option.bind_some, Int.reduceLT, hc, h1']) rfl) ?_
    refine seq (by simp only [run_eq, e_putd, Option.bind_some, ends_eq]; rfl) ?_
    refine seqRet ?_
    simp only [run_eq, e_set, cond_false, e_rv, fix_d, String.reduceBEq, Option.bind_eq_bind, Option.bind_some, if_true, and_self, Int.reducePow, Int.reduceNeg, hm, compV, le_lineI (show nmanyS l ≤ 1000 by lia), rng_lo (show 0 ≤ nmanyS l by lia)]
    rw [comp_range (fun k => strP (calledS (sAt l 2 / 80) k (signS k))) (fun k hk => by
      have hcl := e_called (sAt l 2 / 80) k (signS k) (by lia) (by simp [signS]) (by simp [signS])
      have hs : aBinV .Add ⟨.str (S [97 + k / 26]), .d⟩ ⟨.str (S [122 - k % 26]), .d⟩ = some ⟨.str (S (signS k)), .d⟩ := e_addS (by simp)
      simp only [e_div, e_mod, e_set, cond_true, cond_false, e_fint, e_fstr, e_rv, e_putRd, e_inc, memS_nil, memS_cons, Bool.false_or, fix_d, String.reduceBEq, e_idx_s, Option.bind_some, Option.map_some, if_true, List.map_cons, List.map_nil, Int.reduceLT, cstep, abc_eq, ends_at, abc_at (show k < 78 by lia), hc, hs, hcl, strP])]
    simp only [e_ret, Option.bind_some, Option.map_some, hv, List.map_map]
    rfl
noncomputable def abcS : Str := Str.ofString "abcdefghijklmnopqrstuvwxyz"
noncomputable def lowB (c : Nat) : Bool := !(Builtin.Str.occurrences abcS ⟨#[c]⟩ 0 abcS.length 1).isEmpty
noncomputable def nameB : PyData → Bool
  | .str s => decide (1 ≤ s.length) && decide (s.length ≤ 8) && s.cps.toList.all lowB
  | _ => false
noncomputable def wholeB : PyData → Bool
  | .int _ => true
  | _ => false
theorem isTo_ok {T : String} {x : PyData} (h : instD x = false) : isTo T x = some ⟨.bool (isT T x), .d⟩ := by unfold isTo; rw [h]; rfl
theorem fix_x {x : PyData} {f : Fl} : (V.fix x f).x = x := rfl
theorem whole_of {x : PyData} : (if isT "int" x = true then some (⟨.bool (!isT "bool" x), .d⟩ : V) else some ⟨.bool (isT "int" x), .d⟩) = some ⟨.bool (wholeB x), .d⟩ := by cases x <;> rfl
theorem whole1_ok (B : Bui hb) (D : DefAt hb "is_whole" (fnS pw 11) ["thing"] (fnB pw 11)) : ∃ m, DefG pw w hb 2 "is_whole" m ∧ ∀ x : PyData, instD x = false → m [x] = some (.bool (wholeB x)) := by
  refine ⟨_, DefG.of D (n := 1) (St.cons (S1.ret (Ev.and2 (Ev.isinst tyOk_int (by decide +kernel) B.isinstance (by decide +kernel) B.int Ev.v (by intro _; rfl)) (Ev.not (Ev.isinst tyOk_bool (by decide +kernel) B.isinstance (by decide +kernel) B.bool Ev.v (by intro _; rfl)))))
    St.nil) _ (fun _ _ h => h), ?_⟩
  intro x hx
  refine fn_ret rfl (seqRet ?_)
  simp only [run_eq, cond_true, e_rho_nil, e_rho, e_rv, e_ret, e_tb, String.reduceBEq, Option.bind_eq_bind, Option.bind_some, isTo_ok hx, fix_x, whole_of]
theorem whole2_ok (B : Bui hb) (D : DefAt hb "_law_whole" (fnS pw 23) ["_law_thing"] (fnB pw 23)) : ∃ m, DefG pw w hb 2 "_law_whole" m ∧ ∀ x : PyData, instD x = false → m [x] = some (.bool (wholeB x)) := by
  refine ⟨_, DefG.of D (n := 1) (St.cons (S1.ret (Ev.and2 (Ev.isinst tyOk_int (by decide +kernel) B.isinstance (by decide +kernel) B.int Ev.v (by intro _; rfl)) (Ev.not (Ev.isinst tyOk_bool (by decide +kernel) B.isinstance (by decide +kernel) B.bool Ev.v (by intro _; rfl)))))
    St.nil) _ (fun _ _ h => h), ?_⟩
  intro x hx
  refine fn_ret rfl (seqRet ?_)
  simp only [run_eq, cond_true, e_rho_nil, e_rho, e_rv, e_ret, e_tb, String.reduceBEq, Option.bind_eq_bind, Option.bind_some, isTo_ok hx, fix_x, whole_of]
theorem boolsD_map {α : Type} (f : α → Bool) : ∀ xs : List α, boolsD (xs.map fun c => .bool (f c)) = some (xs.map f)
  | [] => rfl
  | x :: xs => by rw [List.map_cons, boolsD, boolsD_map f xs]; rfl
theorem isT_str {x : PyData} (h : isT "str" x = true) : ∃ s, x = .str s := by
  cases x with
  | str s => exact ⟨s, rfl⟩
  | _ => simp [isT, tyName] at h
theorem name_no {x : PyData} (h : isT "str" x = false) : nameB x = false := by
  cases x with
  | str s => simp [isT, tyName] at h
  | _ => rfl
theorem low_in (c : Nat) : aCmp .In (.str ⟨#[c]⟩) (.str abcS) = some (lowB c) := rfl
theorem low_notin (c : Nat) : aCmp .NotIn (.str ⟨#[c]⟩) (.str abcS) = some (!lowB c) := rfl
theorem name1_ok (B : Bui hb) (G_all : GName hb "all" (.builtin "all")) (g_LETTERS : GData pw w hb "LETTERS" (.str abcS)) (g_MOST_LETTERS : GData pw w hb "MOST_LETTERS" (.int 8)) (D : DefAt hb "is_name" (fnS pw 12) ["thing"] (fnB pw 12)) :
    ∃ m, DefG pw w hb 2 "is_name" m ∧ ∀ x : PyData, instD x = false → m [x] = some (.bool (nameB x)) := by
  refine ⟨_, DefG.of D (n := 1) (St.cons (S1.if (Tr.all (Trs.consOr (Tr.not (Tr.val (Ev.isinst tyOk_str (by decide +kernel) B.isinstance (by decide +kernel) B.str Ev.v (by intro _; rfl)) (by intro _ _; rfl))) (Trs.consOr (Tr.not (Tr.cmp2 Ev.cint (Ev.len B (Evs.cons Ev.v Evs.nil) (by decide +kernel) (by intro _; rfl)) (Ev.gdata g_MOST_LETTERS (by decide +kernel)) (by rfl))) Trs.nilOr))) (St.cons (S1.ret Ev.cbool)
      St.nil) St.nil)
    (St.cons (S1.ret (Ev.callB G_all (Evs.cons (Ev.comp (locs := [".0", "sign"]) (by decide +kernel) (It.data Ev.v (by intro _ _; rfl)) (TgL.name (by decide +kernel) (by decide +kernel)) Ifs.nil (Ev.cmp Ev.v (Ev.gdata g_LETTERS (by decide +kernel)) (by rfl))) Evs.nil) CallOk.all (by decide +kernel) (by intro _; rfl)))
    St.nil)) _ (fun _ _ h => h), ?_⟩
  intro x hx
  refine fn_ret rfl ?_
  cases ht : isT "str" x with
  | false =>
    refine seqRet (ifR_yes (by simp only [tst_eq, cond_true, e_rho_nil, e_rho, e_fint, e_rv, e_tb, String.reduceBEq, Option.bind_eq_bind, Option.bind_some, Option.map_some, if_true, Bool.not_false, isTo_ok hx, fix_x, ht]) (seqRet ?_))
    rw [name_no ht]
    simp only [run_eq, e_ret, Option.bind_some]
  | true =>
    obtain ⟨s, rfl⟩ := isT_str ht
    have hn : nameB (.str s) = (decide ((1 : Int) ≤ (s.length : Nat)) && decide (((s.length : Nat) : Int) ≤ 8) && s.cps.toList.all lowB) := by
      have a1 : decide (1 ≤ s.length) = decide ((1 : Int) ≤ (s.length : Nat)) := by rw [decide_eq_decide]; lia
      have a2 : decide (s.length ≤ 8) = decide (((s.length : Nat) : Int) ≤ 8) := by rw [decide_eq_decide]; lia
      rw [← a1, ← a2]; rfl
    rw [hn]
    cases h1 : decide ((1 : Int) ≤ (s.length : Nat)) with
    | false => exact seqRet (ifR_yes (by simp only [tst_eq, cond_true, cond_false, e_rho_nil, e_rho, e_fint, e_fstr, e_rv, e_le, e_len_s, e_tb, String.reduceBEq, Option.bind_eq_bind, Option.bind_some, Option.map_some, if_true, if_false, Bool.false_eq_true, Bool.not_true, Bool.not_false, isTo_str, ht, h1]) (seqRet (by simp only [run_eq, e_ret, Option.bind_some, Bool.false_and])))
    | true =>
      cases h2 : decide (((s.length : Nat) : Int) ≤ 8) with
      | false => exact seqRet (ifR_yes (by simp only [tst_eq, cond_true, e_rho_nil, e_rho, e_fint, e_fstr, e_rv, e_le, e_len_s, e_tb, String.reduceBEq, Option.bind_eq_bind, Option.bind_some, Option.map_some, if_true, if_false, Bool.false_eq_true, Bool.not_true, Bool.not_false, isTo_str, ht, h1, h2]) (seqRet (by simp only [run_eq, e_ret, Option.bind_some, Bool.false_and, Bool.and_false])))
      | true =>
        refine seq (ifR_no (by simp only [tst_eq, cond_true, e_rho_nil, e_rho, e_fint, e_fstr, e_rv, e_le, e_len_s, e_tb, String.reduceBEq, Option.bind_eq_bind, Option.bind_some, Option.map_some, if_false, Bool.false_eq_true, Bool.not_true, isTo_str, ht, h1, h2]) rfl) (seqRet ?_)
        simp only [run_eq, cond_true, e_rho_nil, e_rho, e_fstr, e_rv, String.reduceBEq, Bool.and_true, Bool.true_and, Option.bind_eq_bind, Option.bind_some, compV, itemsOf, signs]
        rw [comp_map (fun c => .str ⟨#[c]⟩) (fun c => .bool (lowB c)) (fun c _ => by simp only [e_set, cond_true, cond_false, e_rho_nil, e_rho, e_fstr, e_rv, e_putRd, e_inc, memS_nil, memS_cons, Bool.false_or, String.reduceBEq, Option.bind_some, Option.bind_none, if_true, cstep, low_in])]
        simp only [e_ret, Option.bind_some, Option.map_some, aAll, boolsD_map, List.all_map]
        rfl
theorem nds_strs {α : Type} (f : α → Str) : ∀ xs : List α, nds (xs.map fun c => .str (f c)) = true
  | [] => rfl
  | _ :: xs => by rw [List.map_cons, nds, nds_strs f xs]; rfl
theorem eq_nil (xs : List Nat) : aCmp .Eq (.list (xs.map fun c => .str ⟨#[c]⟩)) (.list []) = some xs.isEmpty := by
  show cmpE _ _ = _
  unfold cmpE
  rw [show nd (.list (xs.map fun c => PyData.str ⟨#[c]⟩)) = true from nds_strs (fun c => ⟨#[c]⟩) xs, show nd (.list []) = true from rfl]
  have : min (PyData.depth (.list (xs.map fun c => PyData.str ⟨#[c]⟩))) (PyData.depth (.list [])) ≤ 60 := Nat.le_trans (Nat.min_le_right _ _) (by decide)
  rw [decide_eq_true this]
  cases xs <;> rfl
theorem not_low (xs : List Nat) : (xs.filterMap fun c => if lowB c = true then none else some (PyData.str ⟨#[c]⟩)) = (xs.filter fun c => !lowB c).map fun c => .str ⟨#[c]⟩ := by
  induction xs with
  | nil => rfl
  | cons x xs ih =>
    rw [List.filterMap_cons, List.filter_cons, ih]
    cases lowB x <;> rfl
theorem all_low (xs : List Nat) : (xs.filter fun c => !lowB c).isEmpty = xs.all lowB := by
  induction xs with
  | nil => rfl
  | cons x xs ih =>
    rw [List.filter_cons, List.all_cons]
    cases lowB x
    · rfl
    · exact ih
theorem name2_ok (B : Bui hb) (D : DefAt hb "_law_name" (fnS pw 24) ["_law_thing"] (fnB pw 24)) : ∃ m, DefG pw w hb 2 "_law_name" m ∧ ∀ x : PyData, instD x = false → m [x] = some (.bool (nameB x)) := by
  refine ⟨_, DefG.of D (n := 1) (St.cons (S1.if (Tr.all (Trs.consOr (Tr.not (Tr.val (Ev.isinst tyOk_str (by decide +kernel) B.isinstance (by decide +kernel) B.str Ev.v (by intro _; rfl)) (by intro _ _; rfl))) (Trs.consOr (Tr.cmp (Ev.len B (Evs.cons Ev.v Evs.nil) (by decide +kernel) (by intro _; rfl)) Ev.cint) (Trs.consOr (Tr.cmp (Ev.len B (Evs.cons Ev.v Evs.nil) (by decide +kernel) (by intro _; rfl)) Ev.cint) Trs.nilOr)))) (St.cons (S1.ret Ev.cbool)
      St.nil) St.nil)
    (St.cons (S1.ret (Ev.cmp (Ev.comp (locs := [".0", "_law_sign_here"]) (by decide +kernel) (It.data Ev.v (by intro _ _; rfl)) (TgL.name (by decide +kernel) (by decide +kernel)) (Ifs.one (Tr.cmp Ev.v Ev.s)) Ev.v) (Ev.list Evs.nil) (by rfl)))
    St.nil)) _ (fun _ _ h => h), ?_⟩
  intro x hx
  refine fn_ret rfl ?_
  cases ht : isT "str" x with
  | false =>
    refine seqRet (ifR_yes (by simp only [tst_eq, cond_true, e_rho_nil, e_rho, e_rv, e_tb, String.reduceBEq, Option.bind_eq_bind, Option.bind_some, Option.map_some, if_true, Bool.not_false, isTo_ok hx, fix_x, ht]) (seqRet ?_))
    rw [name_no ht]
    simp only [run_eq, e_ret, Option.bind_some]
  | true =>
    obtain ⟨s, rfl⟩ := isT_str ht
    have hn : nameB (.str s) = (!decide (((s.length : Nat) : Int) < 1) && !decide (((s.length : Nat) : Int) > 8) && s.cps.toList.all lowB) := by
      have a1 : decide (1 ≤ s.length) = !decide (((s.length : Nat) : Int) < 1) := by rw [← decide_not, decide_eq_decide]; lia
      have a2 : decide (s.length ≤ 8) = !decide (((s.length : Nat) : Int) > 8) := by rw [← decide_not, decide_eq_decide]; lia
      rw [← a1, ← a2]; rfl
    rw [hn]
    cases h1 : decide (((s.length : Nat) : Int) < 1) with
    | true => exact seqRet (ifR_yes (by simp only [tst_eq, cond_true, e_rho_nil, e_rho, e_fstr, e_rv, e_lt, e_gt, e_len_s, e_tb, String.reduceBEq, Option.bind_eq_bind, Option.bind_some, Option.map_some, if_true, if_false, Bool.false_eq_true, decide_eq_true_eq, Bool.not_true, isTo_str, ht, h1]) (seqRet (by simp only [run_eq, e_ret, Option.bind_some, Bool.not_true, Bool.false_and])))
    | false =>
      cases h2 : decide (((s.length : Nat) : Int) > 8) with
      | true => exact seqRet (ifR_yes (by simp only [tst_eq, cond_true, e_rho_nil, e_rho, e_fstr, e_rv, e_lt, e_gt, e_len_s, e_tb, String.reduceBEq, Option.bind_eq_bind, Option.bind_some, Option.map_some, if_true, if_false, Bool.false_eq_true, Bool.not_true, isTo_str, ht, h1, h2]) (seqRet (by simp only [run_eq, e_ret, Option.bind_some, Bool.not_true, Bool.not_false, Bool.false_and, Bool.and_false])))
      | false =>
        refine seq (ifR_no (by simp only [tst_eq, cond_true, e_rho_nil, e_rho, e_fstr, e_rv, e_lt, e_gt, e_len_s, e_tb, String.reduceBEq, Option.bind_eq_bind, Option.bind_some, Option.map_some, if_false, Bool.false_eq_true, Bool.not_true, isTo_str, ht, h1, h2]) rfl) (seqRet ?_)
        simp only [run_eq, cond_true, e_rho_nil, e_rho, e_fstr, e_rv, String.reduceBEq, Bool.and_true, Bool.true_and, le_line, fls_nil, newL_d, Option.bind_eq_bind, Option.bind_some, if_true, List.map_nil, List.length_nil, Nat.reduceLeDiff, Bool.not_false, compV, itemsOf, signs]
        rw [comp_enc (fun c => .str ⟨#[c]⟩) (fun c => if lowB c = true then none else some (.str ⟨#[c]⟩)) (fun c _ => by
          simp only [e_set, cond_true, cond_false, e_rho_nil, e_rho, e_fstr, e_rv, e_putRd, e_inc, memS_nil, memS_cons, Bool.false_or, String.reduceBEq, Option.bind_some, Option.bind_none, if_true, cstep, show Str.ofString "abcdefghijklmnopqrstuvwxyz" = abcS from rfl, low_notin]
          cases lowB c <;> rfl)]
        simp only [e_ret, Option.bind_some, Option.map_some, not_low, eq_nil, all_low]
noncomputable def outerBad (ahead : List Str) : PyData → Bool
  | .none => false
  | .str c => !nameB (.str c) || !decide (c ∈ ahead)
  | _ => true
noncomputable def firstBad (ahead : List Str) : PyData → Bool
  | .str a => !nameB (.str a) || decide (a ∈ ahead)
  | _ => true
noncomputable def pairBad (ahead : List Str) : PyData → Bool
  | .tuple [a, b] => firstBad ahead a || outerBad ahead b
  | _ => true
noncomputable def fstS : PyData → Str
  | .tuple (.str a :: _) => a
  | _ => Str.empty
noncomputable def badAt : Nat → List Str → List PyData → Option Nat
  | _, _, [] => none
  | i, ahead, x :: xs => if pairBad ahead x = true then some i else badAt (i + 1) (ahead ++ [fstS x]) xs
noncomputable def badP : PyData → Option PyData
  | .list xs => if xs.length > 12 then some .none else (badAt 0 [] xs).map fun (i : Nat) => .int i
  | _ => some .none
theorem badP_list {xs : List PyData} : badP (.list xs) = if xs.length > 12 then some .none else (badAt 0 [] xs).map fun (i : Nat) => .int i := rfl
theorem tt_tup {xs : List PyData} : isT "tuple" (.tuple xs) = true := rfl
theorem at_0 {x : PyData} {xs : List PyData} : seqAt (x :: xs) 0 = some x := rfl
theorem at_1 {x y : PyData} {xs : List PyData} : seqAt (x :: y :: xs) 1 = some y := rfl
theorem two_eq : (((2 : Nat) : Int) == 2) = true := rfl
theorem isT_tup {x : PyData} (h : isT "tuple" x = true) : ∃ xs, x = .tuple xs := by
  cases x with
  | tuple s => exact ⟨s, rfl⟩
  | _ => simp [isT, tyName] at h
theorem isT_lst {x : PyData} (h : isT "list" x = true) : ∃ xs, x = .list xs := by
  cases x with
  | list s => exact ⟨s, rfl⟩
  | _ => simp [isT, tyName] at h
theorem pairBad_no {ahead : List Str} {x : PyData} (h : isT "tuple" x = false) : pairBad ahead x = true := by
  cases x with
  | tuple s => simp [isT, tyName] at h
  | _ => rfl
theorem badP_no {x : PyData} (h : isT "list" x = false) : badP x = some .none := by
  cases x with
  | list s => simp [isT, tyName] at h
  | _ => rfl
theorem name_str {x : PyData} (h : nameB x = true) : ∃ s, x = .str s := by
  cases x with
  | str s => exact ⟨s, rfl⟩
  | _ => cases h
theorem isNone_eq {x : PyData} (h : isNone x = true) : x = .none := by
  cases x with
  | none => rfl
  | _ => cases h
inductive Pair (ahead : List Str) : PyData → Prop
  | other (x : PyData) (h : isT "tuple" x = false) (b : pairBad ahead x = true) : Pair ahead x
  | size (xs : List PyData) (h : (((xs.length : Nat) : Int) == 2) = false) (b : pairBad ahead (.tuple xs) = true) : Pair ahead (.tuple xs)
  | noName (x y : PyData) (h : nameB x = false) (b : pairBad ahead (.tuple [x, y]) = true) : Pair ahead (.tuple [x, y])
  | again (a : Str) (y : PyData) (h : nameB (.str a) = true) (h' : a ∈ ahead) (b : pairBad ahead (.tuple [.str a, y]) = true) : Pair ahead (.tuple [.str a, y])
  | outer (a : Str) (y : PyData) (h : nameB (.str a) = true) (h' : a ∉ ahead) (hn : isNone y = false) (h2 : nameB y = false) (b : pairBad ahead (.tuple [.str a, y]) = true) : Pair ahead (.tuple [.str a, y])
  | unknown (a c : Str) (h : nameB (.str a) = true) (h' : a ∉ ahead) (h2 : nameB (.str c) = true) (h3 : c ∉ ahead) (b : pairBad ahead (.tuple [.str a, .str c]) = true) : Pair ahead (.tuple [.str a, .str c])
  | none (a : Str) (h : nameB (.str a) = true) (h' : a ∉ ahead) (b : pairBad ahead (.tuple [.str a, .none]) = false) : Pair ahead (.tuple [.str a, .none])
  | fine (a c : Str) (h : nameB (.str a) = true) (h' : a ∉ ahead) (h2 : nameB (.str c) = true) (h3 : c ∈ ahead) (b : pairBad ahead (.tuple [.str a, .str c]) = false) : Pair ahead (.tuple [.str a, .str c])
theorem firstBad_str {ahead : List Str} {s : Str} : firstBad ahead (.str s) = (!nameB (.str s) || decide (s ∈ ahead)) := rfl
theorem outerBad_str {ahead : List Str} {s : Str} : outerBad ahead (.str s) = (!nameB (.str s) || !decide (s ∈ ahead)) := rfl
theorem firstBad_name {ahead : List Str} {x : PyData} (h : nameB x = false) : firstBad ahead x = true := by
  cases x with
  | str s => rw [firstBad_str, h]; rfl
  | _ => rfl
theorem outerBad_name {ahead : List Str} {x : PyData} (hn : isNone x = false) (h : nameB x = false) : outerBad ahead x = true := by
  cases x with
  | str s => rw [outerBad_str, h]; rfl
  | none => cases hn
  | _ => rfl
theorem pair_kind (ahead : List Str) (x : PyData) : Pair ahead x := by
  cases ht : isT "tuple" x with
  | false => exact .other x ht (pairBad_no ht)
  | true =>
    obtain ⟨xs, rfl⟩ := isT_tup ht
    match xs with
    | [] => exact .size [] rfl rfl
    | [a] => exact .size [a] rfl rfl
    | a :: b :: c :: r => exact .size _ (beq_eq_false_iff_ne.mpr (by simp only [List.length_cons]; lia)) rfl
    | [a, b] =>
      cases h1 : nameB a with
      | false => exact .noName a b h1 (by show (firstBad ahead a || _) = true; rw [firstBad_name h1]; rfl)
      | true =>
        obtain ⟨s, rfl⟩ := name_str h1
        by_cases h2 : s ∈ ahead
        · exact .again s b h1 h2 (by show (firstBad ahead (.str s) || _) = true; rw [firstBad_str, decide_eq_true h2, Bool.or_true]; rfl)
        · have f1 : firstBad ahead (.str s) = false := by rw [firstBad_str, h1, decide_eq_false h2]; rfl
          cases h3 : isNone b with
          | true =>
            obtain rfl := isNone_eq h3
            exact .none s h1 h2 (by show (firstBad ahead (.str s) || _) = false; rw [f1]; rfl)
          | false =>
            cases h4 : nameB b with
            | false => exact .outer s b h1 h2 h3 h4 (by show (firstBad ahead (.str s) || outerBad ahead b) = true; rw [outerBad_name h3 h4, Bool.or_true])
            | true =>
              obtain ⟨c, rfl⟩ := name_str h4
              by_cases h5 : c ∈ ahead
              · exact .fine s c h1 h2 h4 h5 (by show (firstBad ahead (.str s) || outerBad ahead (.str c)) = false; rw [f1, outerBad_str, h4, decide_eq_true h5]; rfl)
              · exact .unknown s c h1 h2 h4 h5 (by show (firstBad ahead (.str s) || outerBad ahead (.str c)) = true; rw [f1, outerBad_str, h4, decide_eq_false h5]; rfl)
theorem loop_ret {bind : V → Rho → Option Rho} {body : Rho → Option Out} (P : List Str → Rho → Prop) (R : Nat → PyData) (hs : ∀ (i : Nat) (x : PyData) (ahead : List Str) (ρ : Rho), dn x = true → ahead.length < 100 → P ahead ρ → ∃ ρ₁, bind (V.fix (.tuple [.int i, x]) .s) ρ = some ρ₁ ∧
      ((pairBad ahead x = true ∧ run body ρ₁ = some (.ret (R i))) ∨ (pairBad ahead x = false ∧ ∃ ρ₂, run body ρ₁ = some (.next ρ₂) ∧ P (ahead ++ [fstS x]) ρ₂))) :
    ∀ (xs : List PyData) (i : Nat) (ahead : List Str) (ρ : Rho), dns xs = true → ahead.length + xs.length ≤ 100 → P ahead ρ →
      (∃ k, badAt i ahead xs = some k ∧ forD bind body .s ((xs.zipIdx i).map fun p => .tuple [.int p.2, p.1]) ρ = some (.ret (R k))) ∨ (badAt i ahead xs = none ∧ ∃ ρ' ahead', forD bind body .s ((xs.zipIdx i).map fun p => .tuple [.int p.2, p.1]) ρ = some (.next ρ') ∧ P ahead' ρ')
  | [], i, ahead, ρ, _, _, hP => .inr ⟨rfl, ρ, ahead, rfl, hP⟩
  | x :: xs, i, ahead, ρ, hd, hl, hP => by
    simp only [dns, Bool.and_eq_true] at hd
    simp only [List.length_cons] at hl
    obtain ⟨ρ₁, hb, h⟩ := hs i x ahead ρ hd.1 (by lia) hP
    rw [List.zipIdx_cons, List.map_cons]
    unfold badAt
    rcases h with ⟨hp, h⟩ | ⟨hp, ρ₂, h, hP'⟩
    · rw [if_pos hp]
      exact .inl ⟨i, rfl, forD_ret hb h⟩
    · rw [if_neg (by rw [hp]; decide)]
      rcases loop_ret P R hs xs (i + 1) (ahead ++ [fstS x]) ρ₂ hd.2 (by simp only [List.length_append, List.length_cons, List.length_nil]; lia) hP' with ⟨k, e, q⟩ | ⟨e, ρ', a', q, hq⟩
      · exact .inl ⟨k, e, forD_next hb h q⟩
      · exact .inr ⟨e, ρ', a', forD_next hb h q, hq⟩
theorem loop_seq {mi : Rho → Option (List PyData × Fl)} {bind : V → Rho → Option Rho} {body m' : Rho → Option Out} {ρ : Rho} {yN : PyData} (xs : List PyData) (P : List Str → Rho → Prop) (R : Nat → PyData) (hi : itr mi ρ = some (enumD xs, .s)) (hd : dns xs = true) (hl : xs.length ≤ 100) (h0 : P [] ρ)
    (hs : ∀ (i : Nat) (x : PyData) (ahead : List Str) (ρ : Rho), dn x = true → ahead.length < 100 → P ahead ρ → ∃ ρ₁, bind (V.fix (.tuple [.int i, x]) .s) ρ = some ρ₁ ∧
      ((pairBad ahead x = true ∧ run body ρ₁ = some (.ret (R i))) ∨ (pairBad ahead x = false ∧ ∃ ρ₂, run body ρ₁ = some (.next ρ₂) ∧ P (ahead ++ [fstS x]) ρ₂)))
    (hf : ∀ ahead ρ', P ahead ρ' → run m' ρ' = some (.ret yN)) :
    run (fun ρ => ((mi ρ).bind fun v => if v.2 = .t then none else forD bind body v.2 v.1 ρ).bind (thenB m')) ρ = some (.ret (((badAt 0 [] xs).map R).getD yN)) := by
  rcases loop_ret P R hs xs 0 [] ρ hd (by simpa using hl) h0 with ⟨k, e, q⟩ | ⟨e, ρ', a', q, hq⟩
  · rw [e]
    exact seqRet (forR (enumD xs) .s hi (by decide) q)
  · rw [e]
    exact seq (forR (enumD xs) .s hi (by decide) q) (hf a' ρ' hq)
theorem badpair_ok (B : Bui hb) (HE : GName hb "enumerate" (.type "enumerate")) (D : DefAt hb "_law_bad_pair" (fnS pw 25) ["_law_plots_here"] (fnB pw 25)) {m_n : List PyData → Option PyData} (h_law_name : DefG pw w hb 2 "_law_name" m_n) (e_n : ∀ x : PyData, instD x = false → m_n [x] = some (.bool (nameB x))) :
    ∃ m, DefG pw w hb 3 "_law_bad_pair" m ∧ ∀ p : PyData, dn p = true → m [p] = some (.tuple [.bool (badP p).isSome, (badP p).getD .none]) := by
  refine ⟨_, DefG.of D (n := 2) (St.cons (S1.if (Tr.all (Trs.consOr (Tr.not (Tr.val (Ev.isinst tyOk_list (by decide +kernel) B.isinstance (by decide +kernel) B.list Ev.v (by intro _; rfl)) (by intro _ _; rfl))) (Trs.consOr (Tr.cmp (Ev.len B (Evs.cons Ev.v Evs.nil) (by decide +kernel) (by intro _; rfl)) Ev.cint) Trs.nilOr))) (St.cons (S1.ret (Ev.tuple (Evs.cons Ev.cbool (Evs.cons Ev.cnone Evs.nil))))
      St.nil) St.nil)
    (St.cons (S1.ownList Evs.nil (by decide +kernel))
    (St.cons (S1.for (It.enum HE Ev.v (by decide +kernel) (by intro _; rfl)) (Tg.tuple (xs := ["_law_at_here", "_law_pair_here"]) (by decide +kernel) rfl (by intro _; rfl)) (St.cons (S1.if (Tr.all (Trs.consOr (Tr.not (Tr.val (Ev.isinst tyOk_tuple (by decide +kernel) B.isinstance (by decide +kernel) B.tuple Ev.v (by intro _; rfl)) (by intro _ _; rfl))) (Trs.consOr (Tr.cmp (Ev.len B (Evs.cons Ev.v Evs.nil) (by decide +kernel) (by intro _; rfl)) Ev.cint) (Trs.consOr (Tr.not (Tr.val (Ev.def h_law_name (Evs.cons (Ev.idx Ev.v Ev.cint) Evs.nil) (by decide +kernel) (by decide) (by intro _; rfl)) (by intro _ _; rfl))) (Trs.consOr (Tr.cmp (Ev.idx Ev.v Ev.cint) Ev.v) Trs.nilOr))))) (St.cons (S1.ret (Ev.tuple (Evs.cons Ev.cbool (Evs.cons Ev.v Evs.nil))))
        St.nil) St.nil)
      (St.cons (S1.if (Tr.all (Trs.consAnd (Tr.cmp (Ev.idx Ev.v Ev.cint) Ev.cnone) (Trs.consAnd (Tr.all (Trs.consOr (Tr.not (Tr.val (Ev.def h_law_name (Evs.cons (Ev.idx Ev.v Ev.cint) Evs.nil) (by decide +kernel) (by decide) (by intro _; rfl)) (by intro _ _; rfl))) (Trs.consOr (Tr.cmp (Ev.idx Ev.v Ev.cint) Ev.v) Trs.nilOr))) Trs.nilAnd))) (St.cons (S1.ret (Ev.tuple (Evs.cons Ev.cbool (Evs.cons Ev.v Evs.nil))))
        St.nil) St.nil)
      (St.cons (S1.append (Ev.idx Ev.v Ev.cint) (by decide +kernel) (by intro _; rfl) (by rfl) (by intro env h; unfold interactive; rw [h]; rfl))
      St.nil))))
    (St.cons (S1.ret (Ev.tuple (Evs.cons Ev.cbool (Evs.cons Ev.cnone Evs.nil))))
    St.nil)))) _ (fun _ _ h => h), ?_⟩
  intro p hp
  refine fn_ret rfl ?_
  cases ht : isT "list" p with
  | false =>
    rw [badP_no ht]
    refine seqRet (ifR_yes (by simp only [tst_eq, cond_true, e_rho_nil, e_rho, e_rv, e_tb, String.reduceBEq, Option.bind_eq_bind, Option.bind_some, Option.map_some, if_true, Bool.not_false, isTo_ok (dn_inst hp), fix_x, ht]) (seqRet ?_))
    simp only [run_eq, e_ret, fix_d, le_line, fls_nil, fls_d, Option.bind_eq_bind, Option.bind_some, if_true, List.map_cons, List.map_nil, List.length_cons, List.length_nil, Nat.reduceAdd, Nat.reduceLeDiff]
    rfl
  | true =>
    obtain ⟨xs, rfl⟩ := isT_lst ht
    have hp : dns xs = true := hp
    by_cases hl : xs.length > 12
    · have hl' : decide (((xs.length : Nat) : Int) > 12) = true := decide_eq_true (by lia)
      rw [badP_list, if_pos hl]
      refine seqRet (ifR_yes (by simp only [tst_eq, cond_true, e_rho_nil, e_rho, e_flist, e_rv, e_gt, e_len_l, e_tb, String.reduceBEq, Option.bind_eq_bind, Option.bind_some, Option.map_some, if_true, if_false, Bool.false_eq_true, Bool.not_true, isTo_list, ht, hl']) (seqRet ?_))
      simp only [run_eq, e_ret, fix_d, le_line, fls_nil, fls_d, Option.bind_eq_bind, Option.bind_some, if_true, List.map_cons, List.map_nil, List.length_cons, List.length_nil, Nat.reduceAdd, Nat.reduceLeDiff]
      rfl
    · have hl' : decide (((xs.length : Nat) : Int) > 12) = false := decide_eq_false (by lia)
      rw [badP_list, if_neg hl]
      refine seq (ifR_no (by simp only [tst_eq, cond_true, e_rho_nil, e_rho, e_flist, e_rv, e_gt, e_len_l, e_tb, String.reduceBEq, Option.bind_eq_bind, Option.bind_some, Option.map_some, if_false, Bool.false_eq_true, Bool.not_true, isTo_list, ht, hl']) rfl) ?_
      refine seq (by simp only [run_eq, le_line, fls_nil, Option.bind_some, if_true, List.map_nil, List.length_nil, and_self, Nat.reduceLeDiff]; rfl) ?_
      refine Eq.trans (loop_seq xs (fun ahead ρ => ρ "_law_ahead" = some (.own (.lst (ahead.map .str)))) (fun i => .tuple [.bool true, .int i]) (by simp only [itr_eq, e_set, cond_true, cond_false, e_rho_nil, e_rho, e_flist, e_rv, String.reduceBEq, Option.bind_some, Option.map_some, listOfD]) hp (by lia) (by simp only [e_set, cond_true, cond_false, e_rho_nil, e_rho, e_flist, String.reduceBEq, List.map_nil]) ?_ (fun ahead ρ' h => seqRet (y := .tuple [.bool false, .none]) (by simp only [run_eq, e_ret, fix_d, le_line, fls_nil, fls_d, Option.bind_eq_bind, Option.bind_some, if_true, List.map_cons, List.map_nil, List.length_cons, List.length_nil, Nat.reduceAdd, Nat.reduceLeDiff]))) (by cases badAt 0 [] xs <;> rfl)
      intro i x ahead ρ hx hlt ha
      refine ⟨_, by simp only [e_fint, e_putRd, e_putn, e_putc, Option.bind_some, List.map_cons, List.map_nil, tup_fix, put_fix]; rfl, ?_⟩
      have hl1 : (ahead.map PyData.str).length + 1 ≤ sizeLine := le_line (by simp only [List.length_map]; lia)
      induction pair_kind ahead x with
      | other x h b => exact .inl ⟨b, seqRet (ifR_yes (by simp only [tst_eq, e_set, cond_true, cond_false, e_rv, e_tb, String.reduceBEq, Option.bind_eq_bind, Option.bind_some, Option.map_some, if_true, Bool.not_false, isTo_ok (dn_inst hx), fix_x, h]) (seqRet (by simp only [run_eq, e_set, cond_true, cond_false, e_rv, e_ret, fix_d, String.reduceBEq, le_line, fls_nil, fls_d, Option.bind_eq_bind, Option.bind_some, if_true, List.map_cons, List.map_nil, List.length_cons, List.length_nil, Nat.reduceAdd, Nat.reduceLeDiff])))⟩
      | size xs h b => exact .inl ⟨b, seqRet (ifR_yes (by simp only [tst_eq, e_set, cond_true, cond_false, e_rv, e_nei, e_len_t, e_tb, String.reduceBEq, e_idx_t, Option.bind_eq_bind, Option.bind_some, Option.map_some, if_true, if_false, Bool.false_eq_true, Bool.not_true, Bool.not_false, isTo_tuple, fix_x, tt_tup, h]) (seqRet (by simp only [run_eq, e_set, cond_true, cond_false, e_rv, e_ret, fix_d, String.reduceBEq, le_line, fls_nil, fls_d, Option.bind_eq_bind, Option.bind_some, if_true, List.map_cons, List.map_nil, List.length_cons, List.length_nil, Nat.reduceAdd, Nat.reduceLeDiff])))⟩
      | noName x y h b =>
        simp only [dn, dns, Bool.and_eq_true] at hx
        exact .inl ⟨b, seqRet (ifR_yes (by simp only [tst_eq, e_set, cond_true, cond_false, e_rv, e_nei, e_len_t, e_tb, String.reduceBEq, e_idx_t, Option.bind_eq_bind, Option.bind_some, Option.map_some, if_true, if_false, Bool.false_eq_true, List.map_cons, List.map_nil, List.length_cons, List.length_nil, Nat.reduceAdd, Bool.not_true, Bool.not_false, isTo_tuple, fix_x, tt_tup, two_eq, at_0, e_n x (dn_inst hx.1), h]) (seqRet (by simp only [run_eq, e_set, cond_true, cond_false, e_rv, e_ret, fix_d, String.reduceBEq, le_line, fls_nil, fls_d, Option.bind_eq_bind, Option.bind_some, if_true, List.map_cons, List.map_nil, List.length_cons, List.length_nil, Nat.reduceAdd, Nat.reduceLeDiff])))⟩
      | again a y h h' b => exact .inl ⟨b, seqRet (ifR_yes (by simp only [tst_eq, e_set, cond_true, cond_false, e_fstr, e_rv, e_rl, e_nei, e_len_t, e_tb, String.reduceBEq, e_idx_t, Option.bind_eq_bind, Option.bind_some, Option.map_some, if_true, if_false, Bool.false_eq_true, List.map_cons, List.map_nil, List.length_cons, List.length_nil, Nat.reduceAdd, Bool.not_true, isTo_tuple, fix_x, tt_tup, two_eq, at_0, e_n (.str a) rfl, h, ha, in_strs, decide_eq_true h']) (seqRet (by simp only [run_eq, e_set, cond_true, cond_false, e_rv, e_ret, fix_d, String.reduceBEq, le_line, fls_nil, fls_d, Option.bind_eq_bind, Option.bind_some, if_true, List.map_cons, List.map_nil, List.length_cons, List.length_nil, Nat.reduceAdd, Nat.reduceLeDiff])))⟩
      | outer a y h h' hn h2 b =>
        simp only [dn, dns, Bool.and_eq_true] at hx
        exact .inl ⟨b, seq (ifR_no (by simp only [tst_eq, e_set, cond_true, cond_false, e_fstr, e_rv, e_rl, e_nei, e_len_t, e_tb, String.reduceBEq, e_idx_t, Option.bind_eq_bind, Option.bind_some, Option.map_some, if_false, Bool.false_eq_true, List.map_cons, List.map_nil, List.length_cons, List.length_nil, Nat.reduceAdd, Bool.not_true, isTo_tuple, fix_x, tt_tup, two_eq, at_0, e_n (.str a) rfl, h, ha, in_strs, decide_eq_false h']) rfl) (seqRet (ifR_yes (by simp only [tst_eq, e_set, cond_true, cond_false, e_rv, e_isnot, e_tb, String.reduceBEq, e_idx_t, Option.bind_eq_bind, Option.bind_some, Option.map_some, if_true, List.map_cons, List.map_nil, Bool.not_false, fix_x, at_1, hn, e_n y (dn_inst hx.2.1), h2]) (seqRet (by simp only [run_eq, e_set, cond_true, cond_false, e_rv, e_ret, fix_d, String.reduceBEq, le_line, fls_nil, fls_d, Option.bind_eq_bind, Option.bind_some, if_true, List.map_cons, List.map_nil, List.length_cons, List.length_nil, Nat.reduceAdd, Nat.reduceLeDiff]))))⟩
      | unknown a c h h' h2 h3 b => exact .inl ⟨b, seq (ifR_no (by simp only [tst_eq, e_set, cond_true, cond_false, e_ftup, e_rv, e_rl, e_nei, e_len_t, e_tb, fix_d, fl_nil, fl_str, String.reduceBEq, e_idx_t, Option.bind_eq_bind, Option.bind_some, Option.map_some, if_false, Bool.false_eq_true, List.map_cons, List.map_nil, List.length_cons, List.length_nil, Nat.reduceAdd, Bool.not_true, isTo_tuple, tt_tup, two_eq, at_0, e_n (.str a) rfl, h, ha, in_strs, decide_eq_false h']) rfl) (seqRet (ifR_yes (by simp only [tst_eq, e_set, cond_true, cond_false, e_ftup, e_rv, e_rl, e_isnot, e_tb, fix_d, fl_nil, fl_str, String.reduceBEq, e_idx_t, Option.bind_eq_bind, Option.bind_some, Option.map_some, if_true, if_false, Bool.false_eq_true, List.map_cons, List.map_nil, Bool.not_true, Bool.not_false, at_1, isNone, e_n (.str c) rfl, h2, ha, notin_strs, decide_eq_false h3]) (seqRet (by simp only [run_eq, e_set, cond_true, cond_false, e_ftup, e_rv, e_ret, fix_d, fl_nil, fl_str, String.reduceBEq, le_line, fls_nil, fls_d, Option.bind_eq_bind, Option.bind_some, if_true, List.map_cons, List.map_nil, List.length_cons, List.length_nil, Nat.reduceAdd, Nat.reduceLeDiff]))))⟩
      | none a h h' b =>
        refine .inr ⟨b, _, seq (ifR_no (by simp only [tst_eq, e_set, cond_true, cond_false, e_ftup, e_rv, e_rl, e_nei, e_len_t, e_tb, fix_d, fl_nil, fl_str, fl_none, String.reduceBEq, e_idx_t, Option.bind_eq_bind, Option.bind_some, Option.map_some, if_false, Bool.false_eq_true, List.map_cons, List.map_nil, List.length_cons, List.length_nil, Nat.reduceAdd, Bool.not_true, isTo_tuple, tt_tup, two_eq, at_0, e_n (.str a) rfl, h, ha, in_strs, decide_eq_false h']) rfl) (seq (ifR_no (by simp only [tst_eq, e_set, cond_true, cond_false, e_ftup, e_rv, e_isnot, fix_d, fl_nil, fl_str, fl_none, String.reduceBEq, e_idx_t, Option.bind_eq_bind, Option.bind_some, if_false, Bool.false_eq_true, List.map_cons, List.map_nil, Bool.not_true, at_1, isNone]) rfl) (seq (by simp only [run_eq, e_set, cond_true, cond_false, e_ftup, e_rv, fix_d, fl_nil, fl_str, fl_none, String.reduceBEq, e_idx_t, Option.bind_eq_bind, Option.bind_some, if_true, and_true, at_0, ha, hl1]; rfl) rfl)), ?_⟩
        simp only [e_set, cond_true, cond_false, String.reduceBEq, List.map_cons, List.map_nil, List.map_append, fstS]
      | fine a c h h' h2 h3 b =>
        refine .inr ⟨b, _, seq (ifR_no (by simp only [tst_eq, e_set, cond_true, cond_false, e_ftup, e_rv, e_rl, e_nei, e_len_t, e_tb, fix_d, fl_nil, fl_str, String.reduceBEq, e_idx_t, Option.bind_eq_bind, Option.bind_some, Option.map_some, if_false, Bool.false_eq_true, List.map_cons, List.map_nil, List.length_cons, List.length_nil, Nat.reduceAdd, Bool.not_true, isTo_tuple, tt_tup, two_eq, at_0, e_n (.str a) rfl, h, ha, in_strs, decide_eq_false h']) rfl) (seq (ifR_no (by simp only [tst_eq, e_set, cond_true, cond_false, e_ftup, e_rv, e_rl, e_isnot, e_tb, fix_d, fl_nil, fl_str, String.reduceBEq, e_idx_t, Option.bind_eq_bind, Option.bind_some, Option.map_some, if_true, if_false, Bool.false_eq_true, List.map_cons, List.map_nil, Bool.not_true, Bool.not_false, at_1, isNone, e_n (.str c) rfl, h2, ha, notin_strs, decide_eq_true h3]) rfl) (seq (by simp only [run_eq, e_set, cond_true, cond_false, e_ftup, e_rv, fix_d, fl_nil, fl_str, String.reduceBEq, e_idx_t, Option.bind_eq_bind, Option.bind_some, if_true, and_true, at_0, ha, hl1]; rfl) rfl)), ?_⟩
        simp only [e_set, cond_true, cond_false, String.reduceBEq, List.map_cons, List.map_nil, List.map_append, fstS]
theorem loop_x {bind : V → Rho → Option Rho} {body : Rho → Option OutX} (P : List Str → Rho → Prop) (c : Addr) (hs : ∀ (i : Nat) (x : PyData) (ahead : List Str) (ρ : Rho), dn x = true → ahead.length < 100 → P ahead ρ → ∃ ρ₁, bind (V.fix (.tuple [.int i, x]) .s) ρ = some ρ₁ ∧
      ((pairBad ahead x = true ∧ runX body ρ₁ = some (.exc c (.int i))) ∨ (pairBad ahead x = false ∧ ∃ ρ₂, runX body ρ₁ = some (.out (.next ρ₂)) ∧ P (ahead ++ [fstS x]) ρ₂))) :
    ∀ (xs : List PyData) (i : Nat) (ahead : List Str) (ρ : Rho), dns xs = true → ahead.length + xs.length ≤ 100 → P ahead ρ →
      (∃ k, badAt i ahead xs = some k ∧ forX bind body .s ((xs.zipIdx i).map fun p => .tuple [.int p.2, p.1]) ρ = some (.exc c (.int k))) ∨ (badAt i ahead xs = none ∧ ∃ ρ' ahead', forX bind body .s ((xs.zipIdx i).map fun p => .tuple [.int p.2, p.1]) ρ = some (.out (.next ρ')) ∧ P ahead' ρ')
  | [], i, ahead, ρ, _, _, hP => .inr ⟨rfl, ρ, ahead, rfl, hP⟩
  | x :: xs, i, ahead, ρ, hd, hl, hP => by
    simp only [dns, Bool.and_eq_true] at hd
    simp only [List.length_cons] at hl
    obtain ⟨ρ₁, hb, h⟩ := hs i x ahead ρ hd.1 (by lia) hP
    rw [List.zipIdx_cons, List.map_cons]
    unfold badAt
    rcases h with ⟨hp, h⟩ | ⟨hp, ρ₂, h, hP'⟩
    · rw [if_pos hp]
      exact .inl ⟨i, rfl, forX_exc hb h⟩
    · rw [if_neg (by rw [hp]; decide)]
      rcases loop_x P c hs xs (i + 1) (ahead ++ [fstS x]) ρ₂ hd.2 (by simp only [List.length_append, List.length_cons, List.length_nil]; lia) hP' with ⟨k, e, q⟩ | ⟨e, ρ', a', q, hq⟩
      · exact .inl ⟨k, e, forX_next hb h q⟩
      · exact .inr ⟨e, ρ', a', forX_next hb h q, hq⟩
theorem loop_xseq {mi : Rho → Option (List PyData × Fl)} {bind : V → Rho → Option Rho} {body m' : Rho → Option OutX} {ρ : Rho} (xs : List PyData) (P : List Str → Rho → Prop) (c : Addr) (hi : itr mi ρ = some (enumD xs, .s)) (hd : dns xs = true) (hl : xs.length ≤ 100) (h0 : P [] ρ)
    (hs : ∀ (i : Nat) (x : PyData) (ahead : List Str) (ρ : Rho), dn x = true → ahead.length < 100 → P ahead ρ → ∃ ρ₁, bind (V.fix (.tuple [.int i, x]) .s) ρ = some ρ₁ ∧
      ((pairBad ahead x = true ∧ runX body ρ₁ = some (.exc c (.int i))) ∨ (pairBad ahead x = false ∧ ∃ ρ₂, runX body ρ₁ = some (.out (.next ρ₂)) ∧ P (ahead ++ [fstS x]) ρ₂)))
    (hf : ∀ ahead ρ', P ahead ρ' → ∃ ρ'', runX m' ρ' = some (.out (.next ρ''))) :
    ∃ ρ'', runX (fun ρ => ((mi ρ).bind fun v => if v.2 = .t then none else forX bind body v.2 v.1 ρ).bind (thenX m')) ρ = some (((badAt 0 [] xs).map fun (k : Nat) => OutX.exc c (.int k)).getD (.out (.next ρ''))) := by
  rcases loop_x P c hs xs 0 [] ρ hd (by simpa using hl) h0 with ⟨k, e, q⟩ | ⟨e, ρ', a', q, hq⟩
  · rw [e]
    exact ⟨ρ, xexc (xfor (enumD xs) .s hi (by decide) q)⟩
  · rw [e]
    obtain ⟨ρ'', h⟩ := hf a' ρ' hq
    exact ⟨ρ'', xseq (xfor (enumD xs) .s hi (by decide) q) h⟩
theorem np_fin {ps : List String} {m : Rho → Option OutX} {xs : List PyData} {o : Option Nat} {BP : Addr} (hl : xs.length = ps.length) (h : ∃ ρ'', runX m (rho0 ps xs) = some ((o.map fun (k : Nat) => OutX.exc BP (.int k)).getD (.out (.next ρ'')))) :
    fnX ps m xs = some (((o.map fun (k : Nat) => PyData.int k).map fun a => Sum.inr (BP, a)).getD (.inl .none)) := by
  obtain ⟨ρ'', h⟩ := h
  rw [fnX_run hl h]
  cases o <;> rfl
theorem xseqE {x m' : Rho → Option OutX} {ρ ρ₁ : Rho} {F : Rho → OutX} (h : runX x ρ = some (.out (.next ρ₁))) (h' : ∃ ρ'', runX m' ρ₁ = some (F ρ'')) : ∃ ρ'', runX (fun ρ => (x ρ).bind (thenX m')) ρ = some (F ρ'') :=
  let ⟨ρ'', h'⟩ := h'
  ⟨ρ'', xseq h h'⟩
theorem needplots_ok {BP : Addr} (X_BadPlots : ExcG hb "BadPlots" BP) (g_MOST_PLOTS : GData pw w hb "MOST_PLOTS" (.int 12)) (B : Bui hb) (HE : GName hb "enumerate" (.type "enumerate")) (D : DefAt hb "need_plots" (fnS pw 13) ["plots"] (fnB pw 13)) {m_n : List PyData → Option PyData} (h_is_name : DefG pw w hb 2 "is_name" m_n) (e_n : ∀ x : PyData, instD x = false → m_n [x] = some (.bool (nameB x))) :
    ∃ m, DefX pw w hb 3 "need_plots" m ∧ ∀ p : PyData, dn p = true → m [p] = some (((badP p).map fun a => Sum.inr (BP, a)).getD (.inl .none)) := by
  refine ⟨_, DefX.of D (n := 2) (StX.cons (S1X.if (Tr.all (Trs.consOr (Tr.not (Tr.val (Ev.isinst tyOk_list (by decide +kernel) B.isinstance (by decide +kernel) B.list Ev.v (by intro _; rfl)) (by intro _ _; rfl))) (Trs.consOr (Tr.cmp (Ev.len B (Evs.cons Ev.v Evs.nil) (by decide +kernel) (by intro _; rfl)) (Ev.gdata g_MOST_PLOTS (by decide +kernel))) Trs.nilOr))) (StX.cons (S1X.raise X_BadPlots (Evs.cons Ev.s (Evs.cons Ev.cnone Evs.nil)) (by decide +kernel) (by decide) (by intro _; rfl) (by intro _; rfl))
      (StX.of St.nil)) (StX.of St.nil))
    (StX.cons (S1X.of (S1.ownList Evs.nil (by decide +kernel)))
    (StX.cons (S1X.for (It.enum HE Ev.v (by decide +kernel) (by intro _; rfl)) (Tg.tuple (xs := ["at", "pair"]) (by decide +kernel) rfl (by intro _; rfl)) (StX.cons (S1X.if (Tr.all (Trs.consOr (Tr.not (Tr.val (Ev.isinst tyOk_tuple (by decide +kernel) B.isinstance (by decide +kernel) B.tuple Ev.v (by intro _; rfl)) (by intro _ _; rfl))) (Trs.consOr (Tr.cmp (Ev.len B (Evs.cons Ev.v Evs.nil) (by decide +kernel) (by intro _; rfl)) Ev.cint) (Trs.consOr (Tr.not (Tr.val (Ev.def h_is_name (Evs.cons (Ev.idx Ev.v Ev.cint) Evs.nil) (by decide +kernel) (by decide) (by intro _; rfl)) (by intro _ _; rfl))) (Trs.consOr (Tr.cmp (Ev.idx Ev.v Ev.cint) Ev.v) Trs.nilOr))))) (StX.cons (S1X.raise X_BadPlots (Evs.cons Ev.s (Evs.cons Ev.v Evs.nil)) (by decide +kernel) (by decide) (by intro _; rfl) (by intro _; rfl))
        (StX.of St.nil)) (StX.of St.nil))
      (StX.cons (S1X.if (Tr.all (Trs.consAnd (Tr.cmp (Ev.idx Ev.v Ev.cint) Ev.cnone) (Trs.consAnd (Tr.all (Trs.consOr (Tr.not (Tr.val (Ev.def h_is_name (Evs.cons (Ev.idx Ev.v Ev.cint) Evs.nil) (by decide +kernel) (by decide) (by intro _; rfl)) (by intro _ _; rfl))) (Trs.consOr (Tr.cmp (Ev.idx Ev.v Ev.cint) Ev.v) Trs.nilOr))) Trs.nilAnd))) (StX.cons (S1X.raise X_BadPlots (Evs.cons Ev.s (Evs.cons Ev.v Evs.nil)) (by decide +kernel) (by decide) (by intro _; rfl) (by intro _; rfl))
        (StX.of St.nil)) (StX.of St.nil))
      (StX.cons (S1X.of (S1.append (Ev.idx Ev.v Ev.cint) (by decide +kernel) (by intro _; rfl) (by rfl) (by intro env h; unfold interactive; rw [h]; rfl)))
      (StX.of St.nil)))))
    (StX.of St.nil)))) _ (fun _ _ h => h), ?_⟩
  intro p hp
  cases ht : isT "list" p with
  | false =>
    rw [badP_no ht]
    exact fnX_run (ps := ["plots"]) (r := .exc BP .none) rfl (xexc (xif_yes (by simp only [tst_eq, cond_true, e_rho_nil, e_rho, e_fint, e_rv, e_tb, String.reduceBEq, Option.bind_eq_bind, Option.bind_some, Option.map_some, if_true, Bool.not_false, isTo_ok (dn_inst hp), fix_x, ht]) (xexc (by kernel_rfl))))
  | true =>
    obtain ⟨xs, rfl⟩ := isT_lst ht
    have hp : dns xs = true := hp
    by_cases hl : xs.length > 12
    · have hl' : decide (((xs.length : Nat) : Int) > 12) = true := decide_eq_true (by lia)
      rw [badP_list, if_pos hl]
      exact fnX_run (ps := ["plots"]) (r := .exc BP .none) rfl (xexc (xif_yes (by simp only [tst_eq, cond_true, e_rho_nil, e_rho, e_fint, e_flist, e_rv, e_gt, e_len_l, e_tb, String.reduceBEq, Option.bind_eq_bind, Option.bind_some, Option.map_some, if_true, if_false, Bool.false_eq_true, Bool.not_true, isTo_list, ht, hl']) (xexc (by kernel_rfl))))
    · have hl' : decide (((xs.length : Nat) : Int) > 12) = false := decide_eq_false (by lia)
      rw [badP_list, if_neg hl]
      refine np_fin rfl ?_
      refine xseqE (xif_no (by simp only [tst_eq, cond_true, e_rho_nil, e_rho, e_fint, e_flist, e_rv, e_gt, e_len_l, e_tb, String.reduceBEq, Option.bind_eq_bind, Option.bind_some, Option.map_some, if_false, Bool.false_eq_true, Bool.not_true, isTo_list, ht, hl']) rfl) ?_
      refine xseqE (xof (by simp only [run_eq, le_line, fls_nil, Option.bind_some, if_true, List.map_nil, List.length_nil, and_self, Nat.reduceLeDiff]; rfl)) ?_
      refine loop_xseq xs (fun ahead ρ => ρ "ahead" = some (.own (.lst (ahead.map .str)))) BP (by simp only [itr_eq, e_set, cond_true, cond_false, e_rho_nil, e_rho, e_flist, e_rv, String.reduceBEq, Option.bind_some, Option.map_some, listOfD]) hp (by lia) (by simp only [e_set, cond_true, cond_false, e_rho_nil, e_rho, e_flist, String.reduceBEq, List.map_nil]) ?_ (fun ahead ρ' h => ⟨ρ', rfl⟩)
      intro i x ahead ρ hx hlt ha
      refine ⟨_, by simp only [e_fint, e_putRd, e_putn, e_putc, Option.bind_some, List.map_cons, List.map_nil, tup_fix, put_fix]; rfl, ?_⟩
      have hl1 : (ahead.map PyData.str).length + 1 ≤ sizeLine := le_line (by simp only [List.length_map]; lia)
      induction pair_kind ahead x with
      | other x h b => exact .inl ⟨b, xexc (xif_yes (by simp only [tst_eq, e_set, cond_true, cond_false, e_rv, e_tb, String.reduceBEq, Option.bind_eq_bind, Option.bind_some, Option.map_some, if_true, Bool.not_false, isTo_ok (dn_inst hx), fix_x, h]) (xexc (by kernel_rfl)))⟩
      | size xs h b => exact .inl ⟨b, xexc (xif_yes (by simp only [tst_eq, e_set, cond_true, cond_false, e_rv, e_nei, e_len_t, e_tb, String.reduceBEq, e_idx_t, Option.bind_eq_bind, Option.bind_some, Option.map_some, if_true, if_false, Bool.false_eq_true, Bool.not_true, Bool.not_false, isTo_tuple, fix_x, tt_tup, h]) (xexc (by kernel_rfl)))⟩
      | noName x y h b =>
        simp only [dn, dns, Bool.and_eq_true] at hx
        exact .inl ⟨b, xexc (xif_yes (by simp only [tst_eq, e_set, cond_true, cond_false, e_rv, e_nei, e_len_t, e_tb, String.reduceBEq, e_idx_t, Option.bind_eq_bind, Option.bind_some, Option.map_some, if_true, if_false, Bool.false_eq_true, List.map_cons, List.map_nil, List.length_cons, List.length_nil, Nat.reduceAdd, Bool.not_true, Bool.not_false, isTo_tuple, fix_x, tt_tup, two_eq, at_0, e_n x (dn_inst hx.1), h]) (xexc (by kernel_rfl)))⟩
      | again a y h h' b => exact .inl ⟨b, xexc (xif_yes (by simp only [tst_eq, e_set, cond_true, cond_false, e_fstr, e_rv, e_rl, e_nei, e_len_t, e_tb, String.reduceBEq, e_idx_t, Option.bind_eq_bind, Option.bind_some, Option.map_some, if_true, if_false, Bool.false_eq_true, List.map_cons, List.map_nil, List.length_cons, List.length_nil, Nat.reduceAdd, Bool.not_true, isTo_tuple, fix_x, tt_tup, two_eq, at_0, e_n (.str a) rfl, h, ha, in_strs, decide_eq_true h']) (xexc (by kernel_rfl)))⟩
      | outer a y h h' hn h2 b =>
        simp only [dn, dns, Bool.and_eq_true] at hx
        exact .inl ⟨b, xseq (xif_no (by simp only [tst_eq, e_set, cond_true, cond_false, e_fstr, e_rv, e_rl, e_nei, e_len_t, e_tb, String.reduceBEq, e_idx_t, Option.bind_eq_bind, Option.bind_some, Option.map_some, if_false, Bool.false_eq_true, List.map_cons, List.map_nil, List.length_cons, List.length_nil, Nat.reduceAdd, Bool.not_true, isTo_tuple, fix_x, tt_tup, two_eq, at_0, e_n (.str a) rfl, h, ha, in_strs, decide_eq_false h']) rfl) (xexc (xif_yes (by simp only [tst_eq, e_set, cond_true, cond_false, e_rv, e_isnot, e_tb, String.reduceBEq, e_idx_t, Option.bind_eq_bind, Option.bind_some, Option.map_some, if_true, List.map_cons, List.map_nil, Bool.not_false, fix_x, at_1, hn, e_n y (dn_inst hx.2.1), h2]) (xexc (by kernel_rfl))))⟩
      | unknown a c h h' h2 h3 b => exact .inl ⟨b, xseq (xif_no (by simp only [tst_eq, e_set, cond_true, cond_false, e_ftup, e_rv, e_rl, e_nei, e_len_t, e_tb, fix_d, fl_nil, fl_str, String.reduceBEq, e_idx_t, Option.bind_eq_bind, Option.bind_some, Option.map_some, if_false, Bool.false_eq_true, List.map_cons, List.map_nil, List.length_cons, List.length_nil, Nat.reduceAdd, Bool.not_true, isTo_tuple, tt_tup, two_eq, at_0, e_n (.str a) rfl, h, ha, in_strs, decide_eq_false h']) rfl) (xexc (xif_yes (by simp only [tst_eq, e_set, cond_true, cond_false, e_ftup, e_rv, e_rl, e_isnot, e_tb, fix_d, fl_nil, fl_str, String.reduceBEq, e_idx_t, Option.bind_eq_bind, Option.bind_some, Option.map_some, if_true, if_false, Bool.false_eq_true, List.map_cons, List.map_nil, Bool.not_true, Bool.not_false, at_1, isNone, e_n (.str c) rfl, h2, ha, notin_strs, decide_eq_false h3]) (xexc (by kernel_rfl))))⟩
      | none a h h' b =>
        refine .inr ⟨b, _, xseq (xif_no (by simp only [tst_eq, e_set, cond_true, cond_false, e_ftup, e_rv, e_rl, e_nei, e_len_t, e_tb, fix_d, fl_nil, fl_str, fl_none, String.reduceBEq, e_idx_t, Option.bind_eq_bind, Option.bind_some, Option.map_some, if_false, Bool.false_eq_true, List.map_cons, List.map_nil, List.length_cons, List.length_nil, Nat.reduceAdd, Bool.not_true, isTo_tuple, tt_tup, two_eq, at_0, e_n (.str a) rfl, h, ha, in_strs, decide_eq_false h']) rfl) (xseq (xif_no (by simp only [tst_eq, e_set, cond_true, cond_false, e_ftup, e_rv, e_isnot, fix_d, fl_nil, fl_str, fl_none, String.reduceBEq, e_idx_t, Option.bind_eq_bind, Option.bind_some, if_false, Bool.false_eq_true, List.map_cons, List.map_nil, Bool.not_true, at_1, isNone]) rfl) (xseq (xof (by simp only [run_eq, e_set, cond_true, cond_false, e_ftup, e_rv, fix_d, fl_nil, fl_str, fl_none, String.reduceBEq, e_idx_t, Option.bind_eq_bind, Option.bind_some, if_true, and_true, at_0, ha, hl1]; rfl)) rfl)), ?_⟩
        simp only [e_set, cond_true, cond_false, String.reduceBEq, List.map_cons, List.map_nil, List.map_append, fstS]
      | fine a c h h' h2 h3 b =>
        refine .inr ⟨b, _, xseq (xif_no (by simp only [tst_eq, e_set, cond_true, cond_false, e_ftup, e_rv, e_rl, e_nei, e_len_t, e_tb, fix_d, fl_nil, fl_str, String.reduceBEq, e_idx_t, Option.bind_eq_bind, Option.bind_some, Option.map_some, if_false, Bool.false_eq_true, List.map_cons, List.map_nil, List.length_cons, List.length_nil, Nat.reduceAdd, Bool.not_true, isTo_tuple, tt_tup, two_eq, at_0, e_n (.str a) rfl, h, ha, in_strs, decide_eq_false h']) rfl) (xseq (xif_no (by simp only [tst_eq, e_set, cond_true, cond_false, e_ftup, e_rv, e_rl, e_isnot, e_tb, fix_d, fl_nil, fl_str, String.reduceBEq, e_idx_t, Option.bind_eq_bind, Option.bind_some, Option.map_some, if_true, if_false, Bool.false_eq_true, List.map_cons, List.map_nil, Bool.not_true, Bool.not_false, at_1, isNone, e_n (.str c) rfl, h2, ha, notin_strs, decide_eq_true h3]) rfl) (xseq (xof (by simp only [run_eq, e_set, cond_true, cond_false, e_ftup, e_rv, fix_d, fl_nil, fl_str, String.reduceBEq, e_idx_t, Option.bind_eq_bind, Option.bind_some, if_true, and_true, at_0, ha, hl1]; rfl)) rfl)), ?_⟩
        simp only [e_set, cond_true, cond_false, String.reduceBEq, List.map_cons, List.map_nil, List.map_append, fstS]
inductive Srt where
  | P
  | N
  | W
  | A
noncomputable def Srt.word : Srt → String
  | .P => "plot"
  | .N => "name"
  | .W => "number"
  | .A => "place"
noncomputable def Srt.code : Srt → Nat
  | .P => 112
  | .N => 110
  | .W => 119
  | .A => 97
noncomputable def srtP (t : Srt) : PyData := .str (Str.ofString t.word)
noncomputable def inK (known : List Str) : PyData → Bool
  | .str s => decide (s ∈ known)
  | _ => false
noncomputable def great : Int := 1000000000000000000
noncomputable def numB : PyData → Bool
  | .int i => decide (-great ≤ i) && decide (i ≤ great)
  | _ => false
noncomputable def placeB (size : Int) : PyData → Bool
  | .int i => decide (0 ≤ i) && decide (i ≤ size)
  | _ => false
noncomputable def srtB (known : List Str) (size : Int) : Srt → PyData → Bool
  | .P, x => nameB x && inK known x
  | .N, x => nameB x
  | .W, x => numB x
  | .A, x => placeB size x
theorem whole_int {x : PyData} (h : wholeB x = true) : ∃ i, x = .int i := by
  cases x with
  | int i => exact ⟨i, rfl⟩
  | _ => cases h
theorem num_no {x : PyData} (h : wholeB x = false) : numB x = false := by
  cases x with
  | int i => cases h
  | _ => rfl
theorem place_no {x : PyData} {size : Int} (h : wholeB x = false) : placeB size x = false := by
  cases x with
  | int i => cases h
  | _ => rfl
theorem fits_ok (B : Bui hb) (g_MOST_NUMBER : GData pw w hb "MOST_NUMBER" (.int great)) (D : DefAt hb "fits" (fnS pw 14) ["part", "sort", "names", "size"] (fnB pw 14)) {m_n m_w : List PyData → Option PyData} (h_is_name : DefG pw w hb 2 "is_name" m_n) (e_n : ∀ x : PyData, instD x = false → m_n [x] = some (.bool (nameB x)))
    (h_is_whole : DefG pw w hb 2 "is_whole" m_w) (e_w : ∀ x : PyData, instD x = false → m_w [x] = some (.bool (wholeB x))) :
    ∃ m, DefG pw w hb 3 "fits" m ∧ ∀ (x : PyData) (t : Srt) (known : List Str) (size : Int), instD x = false → m [x, srtP t, .list (known.map .str), .int size] = some (.bool (srtB known size t x)) := by
  refine ⟨_, DefG.of D (n := 2) (St.cons (S1.if (Tr.cmp Ev.v Ev.s) (St.cons (S1.ret (Ev.and2 (Ev.def h_is_name (Evs.cons Ev.v Evs.nil) (by decide +kernel) (by decide) (by intro _; rfl)) (Ev.cmp Ev.v Ev.v (by rfl))))
      St.nil) St.nil)
    (St.cons (S1.if (Tr.cmp Ev.v Ev.s) (St.cons (S1.ret (Ev.def h_is_name (Evs.cons Ev.v Evs.nil) (by decide +kernel) (by decide) (by intro _; rfl)))
      St.nil) St.nil)
    (St.cons (S1.if (Tr.cmp Ev.v Ev.s) (St.cons (S1.ret (Ev.and2 (Ev.def h_is_whole (Evs.cons Ev.v Evs.nil) (by decide +kernel) (by decide) (by intro _; rfl)) (Ev.cmp2 (Ev.neg (Ev.gdata g_MOST_NUMBER (by decide +kernel))) Ev.v (Ev.gdata g_MOST_NUMBER (by decide +kernel)) (by rfl))))
      St.nil) St.nil)
    (St.cons (S1.ret (Ev.and2 (Ev.def h_is_whole (Evs.cons Ev.v Evs.nil) (by decide +kernel) (by decide) (by intro _; rfl)) (Ev.cmp2 Ev.cint Ev.v Ev.v (by rfl))))
    St.nil)))) _ (fun _ _ h => h), ?_⟩
  intro x t known size hx
  have en := e_n x hx
  have ew := e_w x hx
  refine fn_ret rfl ?_
  cases t with
  | P =>
    refine seqRet (ifR_yes (by kernel_rfl) (seqRet ?_))
    show _ = some (Out.ret (.bool (nameB x && inK known x)))
    cases h : nameB x with
    | false => simp only [run_eq, cond_true, cond_false, e_rho_nil, e_rho, e_fint, e_flist, e_rv, e_ret, e_tb, String.reduceBEq, Option.bind_eq_bind, Option.bind_some, Option.map_some, if_false, Bool.false_eq_true, List.map_cons, List.map_nil, fix_x, en, h, Bool.false_and]
    | true =>
      obtain ⟨s, rfl⟩ := name_str h
      simp only [run_eq, cond_true, cond_false, e_rho_nil, e_rho, e_fint, e_fstr, e_flist, e_rv, e_ret, e_tb, String.reduceBEq, Bool.true_and, Option.bind_eq_bind, Option.bind_some, Option.map_some, if_true, List.map_cons, List.map_nil, en, h, in_strs, inK]
  | N =>
    refine seq (ifR_no (by kernel_rfl) rfl) (seqRet (ifR_yes (by kernel_rfl) (seqRet ?_)))
    show _ = some (Out.ret (.bool (nameB x)))
    simp only [run_eq, cond_true, cond_false, e_rho_nil, e_rho, e_fint, e_flist, e_rv, e_ret, String.reduceBEq, Option.bind_eq_bind, Option.bind_some, Option.map_some, List.map_cons, List.map_nil, fix_x, en]
  | W =>
    refine seq (ifR_no (by kernel_rfl) rfl) (seq (ifR_no (by kernel_rfl) rfl) (seqRet (ifR_yes (by kernel_rfl) (seqRet ?_))))
    show _ = some (Out.ret (.bool (numB x)))
    cases h : wholeB x with
    | false => simp only [run_eq, cond_true, cond_false, e_rho_nil, e_rho, e_fint, e_flist, e_rv, e_ret, e_tb, String.reduceBEq, Option.bind_eq_bind, Option.bind_some, Option.map_some, if_false, Bool.false_eq_true, List.map_cons, List.map_nil, fix_x, ew, h, num_no h]
    | true =>
      obtain ⟨i, rfl⟩ := whole_int h
      simp only [run_eq, cond_true, cond_false, e_rho_nil, e_rho, e_fint, e_flist, e_rv, e_le, e_tb, String.reduceBEq, Option.bind_eq_bind, Option.bind_some, Option.map_some, if_true, List.map_cons, List.map_nil, ew, h, numB]
      cases decide (-great ≤ i) <;> rfl
  | A =>
    refine seq (ifR_no (by kernel_rfl) rfl) (seq (ifR_no (by kernel_rfl) rfl) (seq (ifR_no (by kernel_rfl) rfl) (seqRet ?_)))
    show _ = some (Out.ret (.bool (placeB size x)))
    cases h : wholeB x with
    | false => simp only [run_eq, cond_true, cond_false, e_rho_nil, e_rho, e_fint, e_flist, e_rv, e_ret, e_tb, String.reduceBEq, Option.bind_eq_bind, Option.bind_some, Option.map_some, if_false, Bool.false_eq_true, List.map_cons, List.map_nil, fix_x, ew, h, place_no h]
    | true =>
      obtain ⟨i, rfl⟩ := whole_int h
      simp only [run_eq, cond_true, cond_false, e_rho_nil, e_rho, e_fint, e_flist, e_rv, e_le, e_tb, String.reduceBEq, Option.bind_eq_bind, Option.bind_some, Option.map_some, if_true, List.map_cons, List.map_nil, ew, h, placeB]
      cases decide (0 ≤ i) <;> rfl
noncomputable def tableS : List (String × List Srt) := [("open", [.P]), ("lay", [.N, .P, .W]), ("copy", [.N, .N, .P]), ("same", [.N, .N]), ("add", [.N, .N]), ("tell", [.N]), ("give", [.P]), ("fork", [.A]), ("go", [.A]), ("end", [])]
noncomputable def shapeIn (k : Str) : List (String × List Srt) → Option (List Srt)
  | [] => none
  | p :: r => if Str.ofString p.1 = k then some p.2 else shapeIn k r
noncomputable def shapeOf (k : Str) : Option (List Srt) := shapeIn k tableS
noncomputable def tableD (f : List Srt → PyData) (T : List (String × List Srt)) : List (Str × PyData) := T.map fun p => (Str.ofString p.1, f p.2)
theorem has_table (f : List Srt → PyData) (k : Str) : ∀ T : List (String × List Srt), hasKey k ((tableD f T).map fun p => (.str p.1, p.2)) = (shapeIn k T).isSome
  | [] => rfl
  | p :: T => by
    show (decide (Str.ofString p.1 = k) || hasKey k ((tableD f T).map fun p => (.str p.1, p.2))) = (if Str.ofString p.1 = k then some p.2 else shapeIn k T).isSome
    rw [has_table f k T]
    by_cases h : Str.ofString p.1 = k
    · rw [if_pos h, decide_eq_true h]; rfl
    · rw [if_neg h, decide_eq_false h]; rfl
theorem at_table (f : List Srt → PyData) (k : Str) : ∀ T : List (String × List Srt), atKey k ((tableD f T).map fun p => (.str p.1, p.2)) = (shapeIn k T).map f
  | [] => rfl
  | p :: T => by
    show (if Str.ofString p.1 = k then some (f p.2) else atKey k ((tableD f T).map fun p => (.str p.1, p.2))) = (if Str.ofString p.1 = k then some p.2 else shapeIn k T).map f
    rw [at_table f k T]
    by_cases h : Str.ofString p.1 = k
    · rw [if_pos h, if_pos h]; rfl
    · rw [if_neg h, if_neg h]
noncomputable def rowB (known : List Str) (size : Int) : PyData → Bool
  | .tuple (.str k :: xs) => match shapeOf k with
    | none => false
    | some sh => decide (xs.length = sh.length) && (xs.zip sh).all fun p => srtB known size p.2 p.1
  | _ => false
inductive RowK : PyData → Prop
  | other (x : PyData) (h : isT "tuple" x = false) (b : ∀ known size, rowB known size x = false) : RowK x
  | empty (b : ∀ known size, rowB known size (.tuple []) = false) : RowK (.tuple [])
  | noStr (x : PyData) (xs : List PyData) (h : isT "str" x = false) (b : ∀ known size, rowB known size (.tuple (x :: xs)) = false) : RowK (.tuple (x :: xs))
  | noForm (k : Str) (xs : List PyData) (h : shapeOf k = none) (b : ∀ known size, rowB known size (.tuple (.str k :: xs)) = false) : RowK (.tuple (.str k :: xs))
  | size (k : Str) (xs : List PyData) (sh : List Srt) (h : shapeOf k = some sh) (h' : xs.length ≠ sh.length) (b : ∀ known size, rowB known size (.tuple (.str k :: xs)) = false) : RowK (.tuple (.str k :: xs))
  | fine (k : Str) (xs : List PyData) (sh : List Srt) (h : shapeOf k = some sh) (h' : xs.length = sh.length) (b : ∀ known size, rowB known size (.tuple (.str k :: xs)) = (xs.zip sh).all fun p => srtB known size p.2 p.1) : RowK (.tuple (.str k :: xs))
theorem rowB_str {known : List Str} {size : Int} {k : Str} {xs : List PyData} : rowB known size (.tuple (.str k :: xs)) = match shapeOf k with
    | none => false
    | some sh => decide (xs.length = sh.length) && (xs.zip sh).all fun p => srtB known size p.2 p.1 := rfl
theorem rowB_no {known : List Str} {size : Int} {x : PyData} (h : isT "tuple" x = false) : rowB known size x = false := by
  cases x with
  | tuple s => simp [isT, tyName] at h
  | _ => rfl
theorem rowB_noStr {known : List Str} {size : Int} {x : PyData} {xs : List PyData} (h : isT "str" x = false) : rowB known size (.tuple (x :: xs)) = false := by
  cases x with
  | str s => simp [isT, tyName] at h
  | _ => rfl
theorem row_kind (x : PyData) : RowK x := by
  cases ht : isT "tuple" x with
  | false => exact .other x ht fun known size => rowB_no ht
  | true =>
    obtain ⟨xs, rfl⟩ := isT_tup ht
    cases xs with
    | nil => exact .empty fun _ _ => rfl
    | cons y ys =>
      cases hs : isT "str" y with
      | false => exact .noStr y ys hs fun known size => rowB_noStr hs
      | true =>
        obtain ⟨k, rfl⟩ := isT_str hs
        cases hk : shapeOf k with
        | none => exact .noForm k ys hk fun known size => by rw [rowB_str, hk]
        | some sh =>
          by_cases hl : ys.length = sh.length
          · exact .fine k ys sh hk hl fun known size => by rw [rowB_str, hk]; simp only [decide_eq_true hl, Bool.true_and]
          · exact .size k ys sh hk hl fun known size => by rw [rowB_str, hk]; simp only [decide_eq_false hl, Bool.false_and]
noncomputable def shapesP : PyData := dictOf (tableD (fun sh => .tuple (sh.map srtP)) tableS)
theorem notin_shapes (k : Str) (f : List Srt → PyData) : aCmp .NotIn (.str k) (dictOf (tableD f tableS)) = some (!(shapeOf k).isSome) := by
  show (inD k ((tableD f tableS).map fun p => (.str p.1, p.2))).map _ = _
  rw [inD_map (fun p => p.1) (fun p => p.2) k (tableD f tableS), has_table f k tableS]; rfl
theorem idx_shapes (k : Str) (f : List Srt → PyData) : aIdx (dictOf (tableD f tableS)) (.str k) = (shapeOf k).map f := at_table f k tableS
theorem flats_srt (sh : List Srt) : flats (sh.map srtP) = true := (flats_iff _).mpr fun x hx => by
  obtain ⟨t, _, rfl⟩ := List.mem_map.mp hx; rfl
theorem len_ne {a b : Nat} : (!(((a + 1 : Nat) : Int) == 1 + ((b : Nat) : Int))) = !decide (a = b) := by
  by_cases h : a = b
  · subst h; rw [decide_eq_true rfl, beq_iff_eq.mpr (by lia)]
  · rw [decide_eq_false h, beq_eq_false_iff_ne.mpr (by lia)]
theorem len_zero {a : Nat} : (((a + 1 : Nat) : Int) == 0) = false := beq_eq_false_iff_ne.mpr (by lia)
theorem zip_enc : ∀ (xs : List PyData) (sh : List Srt), zipD xs (sh.map srtP) = (xs.zip sh).map fun p => .tuple [p.1, srtP p.2]
  | [], _ => rfl
  | _ :: _, [] => rfl
  | x :: xs, t :: sh => by
    have := zip_enc xs sh
    unfold zipD at this ⊢
    rw [List.map_cons, List.zip_cons_cons, List.map_cons, this, List.zip_cons_cons, List.map_cons]
theorem drop_one {x : PyData} {xs : List PyData} {f : Fl} : aSliceU (some 1) none (V.fix (.tuple (x :: xs)) f) = some (V.fix (.tuple xs) (V.fix (.tuple (x :: xs)) f).fl) := by
  show (if (0 : Int) ≤ 1 ∧ (0 : Int) ≤ 0 then some (V.fix (.tuple (((x :: xs).take (min ((((x :: xs).length : Nat) : Int)).toNat (x :: xs).length)).drop (min (1 : Int).toNat (x :: xs).length))) (V.fix (.tuple (x :: xs)) f).fl) else none) = _
  rw [if_pos ⟨by decide, by decide⟩]
  simp
theorem isrow_ok (B : Bui hb) (HZ : GName hb "zip" (.type "zip")) (G_all : GName hb "all" (.builtin "all")) (g_SHAPES : GData pw w hb "SHAPES" shapesP) (D : DefAt hb "is_row" (fnS pw 15) ["row", "names", "size"] (fnB pw 15)) {m_f : List PyData → Option PyData} (h_fits : DefG pw w hb 3 "fits" m_f)
    (e_f : ∀ (x : PyData) (t : Srt) (known : List Str) (size : Int), instD x = false → m_f [x, srtP t, .list (known.map .str), .int size] = some (.bool (srtB known size t x))) :
    ∃ m, DefG pw w hb 4 "is_row" m ∧ ∀ (x : PyData) (known : List Str) (size : Int), dn x = true → m [x, .list (known.map .str), .int size] = some (.bool (rowB known size x)) := by
  refine ⟨_, DefG.of D (n := 3) (St.cons (S1.if (Tr.all (Trs.consOr (Tr.not (Tr.val (Ev.isinst tyOk_tuple (by decide +kernel) B.isinstance (by decide +kernel) B.tuple Ev.v (by intro _; rfl)) (by intro _ _; rfl))) (Trs.consOr (Tr.cmp (Ev.len B (Evs.cons Ev.v Evs.nil) (by decide +kernel) (by intro _; rfl)) Ev.cint) (Trs.consOr (Tr.not (Tr.val (Ev.isinst tyOk_str (by decide +kernel) B.isinstance (by decide +kernel) B.str (Ev.idx Ev.v Ev.cint) (by intro _; rfl)) (by intro _ _; rfl))) (Trs.consOr (Tr.cmp (Ev.idx Ev.v Ev.cint) (Ev.gdata g_SHAPES (by decide +kernel))) Trs.nilOr))))) (St.cons (S1.ret Ev.cbool)
      St.nil) St.nil)
    (St.cons (S1.assign (Ev.idx (Ev.gdata g_SHAPES (by decide +kernel)) (Ev.idx Ev.v Ev.cint)) (by decide +kernel))
    (St.cons (S1.if (Tr.cmp (Ev.len B (Evs.cons Ev.v Evs.nil) (by decide +kernel) (by intro _; rfl)) (Ev.bin Ev.cint (Ev.len B (Evs.cons Ev.v Evs.nil) (by decide +kernel) (by intro _; rfl)))) (St.cons (S1.ret Ev.cbool)
      St.nil) St.nil)
    (St.cons (S1.ret (Ev.callB G_all (Evs.cons (Ev.comp (locs := [".0", "part", "sort"]) (by decide +kernel) (It.zipTT HZ (Ev.sliceU Ev.v (Pt.yes Ev.cint) Pt.no (by intro _ _; exact ⟨_, rfl⟩)) Ev.v (by decide +kernel) (by intro _; rfl)) (TgL.tuple (xs := ["part", "sort"]) (by decide +kernel) (by decide +kernel) rfl (by intro _; rfl)) Ifs.nil (Ev.def h_fits (Evs.cons Ev.v (Evs.cons Ev.v (Evs.cons Ev.v (Evs.cons Ev.v Evs.nil)))) (by decide +kernel) (by decide) (by intro _; rfl))) Evs.nil) CallOk.all (by decide +kernel) (by intro _; rfl)))
    St.nil)))) _ (fun _ _ h => h), ?_⟩
  intro x known size hx
  refine fn_ret rfl ?_
  induction row_kind x with
  | other x h b =>
    rw [b]
    exact seqRet (ifR_yes (by simp only [tst_eq, cond_true, cond_false, e_rho_nil, e_rho, e_fint, e_flist, e_rv, e_tb, String.reduceBEq, Option.bind_eq_bind, Option.bind_some, Option.map_some, if_true, Bool.not_false, isTo_ok (dn_inst hx), fix_x, h]) (seqRet (by simp only [run_eq, e_ret, Option.bind_some])))
  | empty b =>
    rw [b]
    exact seqRet (ifR_yes (by kernel_rfl) (seqRet (by simp only [run_eq, e_ret, Option.bind_some])))
  | noStr x xs h b =>
    rw [b]
    simp only [dn, dns, Bool.and_eq_true] at hx
    exact seqRet (ifR_yes (by simp only [tst_eq, cond_true, cond_false, e_rho_nil, e_rho, e_fint, e_flist, e_rv, e_eqi, e_len_t, e_tb, String.reduceBEq, e_idx_t, Option.bind_eq_bind, Option.bind_some, Option.map_some, if_true, if_false, Bool.false_eq_true, List.length_cons, Bool.not_true, Bool.not_false, isTo_tuple, fix_x, tt_tup, len_zero, at_0, isTo_ok (dn_inst hx.1), h]) (seqRet (by simp only [run_eq, e_ret, Option.bind_some])))
  | noForm k xs h b =>
    rw [b]
    exact seqRet (ifR_yes (by simp only [tst_eq, cond_true, cond_false, e_rho_nil, e_rho, e_fint, e_fstr, e_flist, e_rv, e_eqi, e_len_t, e_tb, String.reduceBEq, e_idx_t, Option.bind_eq_bind, Option.bind_some, Option.map_some, if_false, Bool.false_eq_true, List.length_cons, isTo_str, isTo_tuple, fix_x, len_zero, at_0, isT, tyName, shapesP, notin_shapes, h]; rfl) (seqRet (by simp only [run_eq, e_ret, Option.bind_some])))
  | size k xs sh h h' b =>
    rw [b]
    refine seq (ifR_no (by simp only [tst_eq, cond_true, cond_false, e_rho_nil, e_rho, e_fint, e_fstr, e_flist, e_rv, e_eqi, e_len_t, e_tb, String.reduceBEq, e_idx_t, Option.bind_eq_bind, Option.bind_some, Option.map_some, if_false, Bool.false_eq_true, List.length_cons, isTo_str, isTo_tuple, fix_x, len_zero, at_0, isT, tyName, shapesP, notin_shapes, h]; rfl) rfl) ?_
    refine seq (by simp only [run_eq, cond_true, cond_false, e_rho_nil, e_rho, e_fint, e_fstr, e_flist, e_rv, e_putd, String.reduceBEq, e_idx_t, Option.bind_eq_bind, Option.bind_some, Option.map_some, fix_x, at_0, shapesP, idx_shapes, h, e_ftup (flats_srt sh)]; rfl) ?_
    exact seqRet (ifR_yes (by simp only [tst_eq, e_add, e_set, cond_true, cond_false, e_rho_nil, e_rho, e_fint, e_flist, e_rv, e_nei, e_len_t, String.reduceBEq, Option.bind_eq_bind, Option.bind_some, Option.map_some, List.length_cons, Bool.not_false, fix_x, List.length_map, len_ne, decide_eq_false h']) (seqRet (by simp only [run_eq, e_ret, Option.bind_some])))
  | fine k xs sh h h' b =>
    rw [b]
    simp only [dn, dns, Bool.and_eq_true] at hx
    refine seq (ifR_no (by simp only [tst_eq, cond_true, cond_false, e_rho_nil, e_rho, e_fint, e_fstr, e_flist, e_rv, e_eqi, e_len_t, e_tb, String.reduceBEq, e_idx_t, Option.bind_eq_bind, Option.bind_some, Option.map_some, if_false, Bool.false_eq_true, List.length_cons, isTo_str, isTo_tuple, fix_x, len_zero, at_0, isT, tyName, shapesP, notin_shapes, h]; rfl) rfl) ?_
    refine seq (by simp only [run_eq, cond_true, cond_false, e_rho_nil, e_rho, e_fint, e_fstr, e_flist, e_rv, e_putd, String.reduceBEq, e_idx_t, Option.bind_eq_bind, Option.bind_some, Option.map_some, fix_x, at_0, shapesP, idx_shapes, h, e_ftup (flats_srt sh)]; rfl) ?_
    refine seq (ifR_no (by simp only [tst_eq, e_add, e_set, cond_true, cond_false, e_rho_nil, e_rho, e_fint, e_flist, e_rv, e_nei, e_len_t, String.reduceBEq, Option.bind_eq_bind, Option.bind_some, Option.map_some, List.length_cons, Bool.not_true, fix_x, List.length_map, len_ne, decide_eq_true h']) rfl) (seqRet ?_)
    simp only [run_eq, e_set, cond_true, cond_false, e_rho_nil, e_rho, e_fint, e_flist, e_rv, String.reduceBEq, Option.bind_eq_bind, Option.bind_some, Option.map_some, compV, drop_one, fix_x, tuplD, zip_enc]
    rw [comp_map (fun p : PyData × Srt => .tuple [p.1, srtP p.2]) (fun p => .bool (srtB known size p.2 p.1)) (fun p hp => by
      have hi : instD p.1 = false := dn_inst (dns_mem hx.2 (List.of_mem_zip hp).1)
      simp only [e_set, cond_true, cond_false, e_rho_nil, e_rho, e_fint, e_flist, e_rv, e_putn, e_putc, e_inc, memS_nil, memS_cons, Bool.false_or, String.reduceBEq, Option.bind_some, Option.map_some, Option.bind_none, if_true, List.map_cons, List.map_nil, cstep, tup_fix, put_fix, fix_x, e_f p.1 p.2 known size hi])]
    simp only [e_ret, Option.bind_some, Option.map_some, aAll, boolsD_map, List.all_map]
    rfl
theorem put_fixf {s : String} {v : PyData} {f : Fl} {ρ : Rho} (h : f ≠ .t) : putR s (V.fix v f) ρ = some (ρ.set s (.val (V.fix v f))) := by
  unfold V.fix
  cases f with
  | t => exact absurd rfl h
  | d => split <;> rfl
  | s => split <;> rfl
theorem fix_ne {x : PyData} {f : Fl} (h : f ≠ .t) : (V.fix x f).fl ≠ .t := by
  unfold V.fix
  cases f with
  | t => exact absurd rfl h
  | d => split <;> exact fun q => nomatch q
  | s => split <;> exact fun q => nomatch q
theorem seqOwn {x m' : Rho → Option Out} {ρ : Rho} {o : Out} (s : String) (v : Own) (h : run x ρ = some (.next (ρ.set s (.own v)))) (h' : run m' (ρ.set s (.own v)) = some o) : run (fun ρ => (x ρ).bind (thenB m')) ρ = some o := seq h h'
theorem loop_all {α : Type} {bind : V → Rho → Option Rho} {body : Rho → Option Out} {f : Fl} (enc : α → PyData) (ok : α → Bool) (P : Rho → Prop) (bad : PyData) : ∀ {zs : List α} {ρ : Rho}, (∀ z ∈ zs, ∀ ρ, P ρ → ∃ ρ₁, bind (V.fix (enc z) f) ρ = some ρ₁ ∧ ((ok z = true ∧ ∃ ρ₂, run body ρ₁ = some (.next ρ₂) ∧ P ρ₂) ∨ (ok z = false ∧ run body ρ₁ = some (.ret bad)))) → P ρ →
    (zs.all ok = true ∧ ∃ ρ', forD bind body f (zs.map enc) ρ = some (.next ρ') ∧ P ρ') ∨ (zs.all ok = false ∧ forD bind body f (zs.map enc) ρ = some (.ret bad))
  | [], ρ, _, h => .inl ⟨rfl, ρ, rfl, h⟩
  | z :: zs, ρ, hs, h => by
    obtain ⟨ρ₁, hb, h'⟩ := hs z (.head _) ρ h
    rw [List.all_cons, List.map_cons]
    rcases h' with ⟨o, ρ₂, r, p⟩ | ⟨o, r⟩
    · rw [o, Bool.true_and]
      rcases loop_all enc ok P bad (zs := zs) (fun y hy => hs y (.tail _ hy)) p with ⟨a, ρ', q, p'⟩ | ⟨a, q⟩
      · exact .inl ⟨a, ρ', forD_next hb r q, p'⟩
      · exact .inr ⟨a, forD_next hb r q⟩
    · rw [o, Bool.false_and]
      exact .inr ⟨rfl, forD_ret hb r⟩
theorem loop_allR {α : Type} {mi : Rho → Option (List PyData × Fl)} {bind : V → Rho → Option Rho} {body m' : Rho → Option Out} {f : Fl} {ρ : Rho} {y : PyData} (enc : α → PyData) (ok : α → Bool) (P : Rho → Prop) (bad : PyData) (zs : List α) (hi : itr mi ρ = some (zs.map enc, f)) (hf : f ≠ .t)
    (hs : ∀ z ∈ zs, ∀ ρ, P ρ → ∃ ρ₁, bind (V.fix (enc z) f) ρ = some ρ₁ ∧ ((ok z = true ∧ ∃ ρ₂, run body ρ₁ = some (.next ρ₂) ∧ P ρ₂) ∨ (ok z = false ∧ run body ρ₁ = some (.ret bad)))) (h0 : P ρ) (h' : ∀ ρ', P ρ' → run m' ρ' = some (.ret y)) :
    run (fun ρ => ((mi ρ).bind fun v => if v.2 = .t then none else forD bind body v.2 v.1 ρ).bind (thenB m')) ρ = some (.ret (bif zs.all ok then y else bad)) := by
  rcases loop_all enc ok P bad hs h0 with ⟨a, ρ', q, p⟩ | ⟨a, q⟩
  · rw [a]; exact seq (forR _ f hi hf q) (h' ρ' p)
  · rw [a]; exact seqRet (forR _ f hi hf q)
noncomputable def formP (sh : List Srt) : PyData := .str (S (sh.map Srt.code))
theorem code_lt (sh : List Srt) : (S (sh.map Srt.code)).cps.all (· < 128) = true := by
  show ((sh.map Srt.code).toArray).all _ = true
  rw [List.all_toArray, List.all_eq_true]
  intro c hc
  obtain ⟨t, _, rfl⟩ := List.mem_map.mp hc
  cases t <;> rfl
theorem zip_form : ∀ (sh : List Srt) (xs : List PyData), zipD (signs (S (sh.map Srt.code))) xs = (sh.zip xs).map fun p => .tuple [.str ⟨#[p.1.code]⟩, p.2]
  | [], _ => rfl
  | _ :: _, [] => by unfold zipD; simp
  | t :: sh, x :: xs => by
    have := zip_form sh xs
    unfold zipD signs at this ⊢
    show ((((t :: sh).map Srt.code).map _).zip (x :: xs)).map _ = _
    rw [List.map_cons, List.map_cons, List.zip_cons_cons, List.map_cons, List.zip_cons_cons, List.map_cons]
    exact congrArg _ this
theorem zip_all (ok : Srt → PyData → Bool) : ∀ (xs : List PyData) (sh : List Srt), ((sh.zip xs).all fun p => ok p.1 p.2) = ((xs.zip sh).all fun p => ok p.2 p.1)
  | [], [] => rfl
  | [], _ :: _ => rfl
  | _ :: _, [] => rfl
  | x :: xs, t :: sh => by rw [List.zip_cons_cons, List.zip_cons_cons, List.all_cons, List.all_cons, zip_all ok xs sh]
theorem abs_num {i : Int} : (!decide ((if i < 0 then -i else i) > 1000000000000000000)) = numB (.int i) := by
  show _ = (decide (-1000000000000000000 ≤ i) && decide (i ≤ 1000000000000000000))
  rw [← decide_not, ← Bool.decide_and, decide_eq_decide]
  split <;> lia
theorem place_of {i size : Int} : (!decide (i < 0) && !decide (i > size)) = placeB size (.int i) := by
  show _ = (decide (0 ≤ i) && decide (i ≤ size))
  rw [← decide_not, ← decide_not]
  congr 1 <;> rw [decide_eq_decide] <;> lia
theorem c_n : ((⟨#[110]⟩ : Str) == Str.ofString "n") = true := by kernel_rfl
theorem c_p : ((⟨#[112]⟩ : Str) == Str.ofString "p") = true := by kernel_rfl
theorem c_w : ((⟨#[119]⟩ : Str) == Str.ofString "w") = true := by kernel_rfl
theorem c_a : ((⟨#[97]⟩ : Str) == Str.ofString "a") = true := by kernel_rfl
theorem ob_bool {b : Bool} : (bif b then PyData.bool true else .bool false) = .bool b := by cases b <;> rfl
theorem goodrow_ok (B : Bui hb) (HZ : GName hb "zip" (.type "zip")) (G_abs : GName hb "abs" (.builtin "abs")) (D : DefAt hb "_law_good_row" (fnS pw 26) ["_law_row_here", "_law_known", "_law_size"] (fnB pw 26)) {m_n m_w : List PyData → Option PyData} (h_law_name : DefG pw w hb 2 "_law_name" m_n) (e_n : ∀ x : PyData, instD x = false → m_n [x] = some (.bool (nameB x)))
    (h_law_whole : DefG pw w hb 2 "_law_whole" m_w) (e_w : ∀ x : PyData, instD x = false → m_w [x] = some (.bool (wholeB x))) :
    ∃ m, DefG pw w hb 3 "_law_good_row" m ∧ ∀ (x : PyData) (known : List Str) (size : Int), dn x = true → m [x, .list (known.map .str), .int size] = some (.bool (rowB known size x)) := by
  refine ⟨_, DefG.of D (n := 2) (St.cons (S1.if (Tr.all (Trs.consOr (Tr.not (Tr.val (Ev.isinst tyOk_tuple (by decide +kernel) B.isinstance (by decide +kernel) B.tuple Ev.v (by intro _; rfl)) (by intro _ _; rfl))) (Trs.consOr (Tr.cmp (Ev.len B (Evs.cons Ev.v Evs.nil) (by decide +kernel) (by intro _; rfl)) Ev.cint) (Trs.consOr (Tr.not (Tr.val (Ev.isinst tyOk_str (by decide +kernel) B.isinstance (by decide +kernel) B.str (Ev.idx Ev.v Ev.cint) (by intro _; rfl)) (by intro _ _; rfl))) Trs.nilOr)))) (St.cons (S1.ret Ev.cbool)
      St.nil) St.nil)
    (St.cons (S1.ownDictP (Prs.cons Ev.s (Prs.cons Ev.s (Prs.cons Ev.s (Prs.cons Ev.s (Prs.cons Ev.s (Prs.cons Ev.s (Prs.cons Ev.s Prs.nil (by decide +kernel)) (by decide +kernel)) (by decide +kernel)) (by decide +kernel)) (by decide +kernel)) (by decide +kernel)) (by decide +kernel)) (by rfl) (by rfl) (by intro h; cases h) (by decide) (by decide +kernel) (by intro _ _; rfl))
    (St.cons (S1.update (Prs.cons Ev.s (Prs.cons Ev.s (Prs.cons Ev.s Prs.nil (by decide +kernel)) (by decide +kernel)) (by decide +kernel)) (by rfl) (by rfl) (by intro h; cases h) (by decide) (by decide +kernel) (by intro _; rfl) (by rfl) (by intro env h; unfold interactive; rw [h]; rfl))
    (St.cons (S1.if (Tr.all (Trs.consOr (Tr.cmp (Ev.idx Ev.v Ev.cint) Ev.v) (Trs.consOr (Tr.cmp (Ev.len B (Evs.cons Ev.v Evs.nil) (by decide +kernel) (by intro _; rfl)) (Ev.bin Ev.cint (Ev.len B (Evs.cons (Ev.idx Ev.v (Ev.idx Ev.v Ev.cint)) Evs.nil) (by decide +kernel) (by intro _; rfl)))) Trs.nilOr))) (St.cons (S1.ret Ev.cbool)
      St.nil) St.nil)
    (St.cons (S1.for (It.zipST HZ (Ev.idx Ev.v (Ev.idx Ev.v Ev.cint)) (Ev.sliceU Ev.v (Pt.yes Ev.cint) Pt.no (by intro _ _; exact ⟨_, rfl⟩)) (by decide +kernel) (by intro _; rfl)) (Tg.tuple (xs := ["_law_form", "_law_thing"]) (by decide +kernel) rfl (by intro _; rfl)) (St.cons (S1.if (Tr.all (Trs.consAnd (Tr.cmp Ev.v Ev.s) (Trs.consAnd (Tr.not (Tr.val (Ev.def h_law_name (Evs.cons Ev.v Evs.nil) (by decide +kernel) (by decide) (by intro _; rfl)) (by intro _ _; rfl))) Trs.nilAnd))) (St.cons (S1.ret Ev.cbool)
        St.nil) St.nil)
      (St.cons (S1.if (Tr.all (Trs.consAnd (Tr.cmp Ev.v Ev.s) (Trs.consAnd (Tr.all (Trs.consOr (Tr.not (Tr.val (Ev.def h_law_name (Evs.cons Ev.v Evs.nil) (by decide +kernel) (by decide) (by intro _; rfl)) (by intro _ _; rfl))) (Trs.consOr (Tr.cmp Ev.v Ev.v) Trs.nilOr))) Trs.nilAnd))) (St.cons (S1.ret Ev.cbool)
        St.nil) St.nil)
      (St.cons (S1.if (Tr.all (Trs.consAnd (Tr.cmp Ev.v Ev.s) (Trs.consAnd (Tr.all (Trs.consOr (Tr.not (Tr.val (Ev.def h_law_whole (Evs.cons Ev.v Evs.nil) (by decide +kernel) (by decide) (by intro _; rfl)) (by intro _ _; rfl))) (Trs.consOr (Tr.cmp (Ev.callB G_abs (Evs.cons Ev.v Evs.nil) CallOk.abs (by decide +kernel) (by intro _; rfl)) Ev.cint) Trs.nilOr))) Trs.nilAnd))) (St.cons (S1.ret Ev.cbool)
        St.nil) St.nil)
      (St.cons (S1.if (Tr.all (Trs.consAnd (Tr.cmp Ev.v Ev.s) (Trs.consAnd (Tr.all (Trs.consOr (Tr.not (Tr.val (Ev.def h_law_whole (Evs.cons Ev.v Evs.nil) (by decide +kernel) (by decide) (by intro _; rfl)) (by intro _ _; rfl))) (Trs.consOr (Tr.cmp Ev.v Ev.cint) (Trs.consOr (Tr.cmp Ev.v Ev.v) Trs.nilOr)))) Trs.nilAnd))) (St.cons (S1.ret Ev.cbool)
        St.nil) St.nil)
      St.nil)))))
    (St.cons (S1.ret Ev.cbool)
    St.nil)))))) _ (fun _ _ h => h), ?_⟩
  intro x known size hx
  refine fn_ret rfl ?_
  induction row_kind x with
  | other x h b =>
    rw [b]
    exact seqRet (ifR_yes (by simp only [tst_eq, cond_true, cond_false, e_rho_nil, e_rho, e_fint, e_flist, e_rv, e_tb, String.reduceBEq, Option.bind_eq_bind, Option.bind_some, Option.map_some, if_true, Bool.not_false, isTo_ok (dn_inst hx), fix_x, h]) (seqRet (by simp only [run_eq, e_ret, Option.bind_some])))
  | empty b =>
    rw [b]
    exact seqRet (ifR_yes (by kernel_rfl) (seqRet (by simp only [run_eq, e_ret, Option.bind_some])))
  | noStr x xs h b =>
    rw [b]
    simp only [dn, dns, Bool.and_eq_true] at hx
    exact seqRet (ifR_yes (by simp only [tst_eq, cond_true, cond_false, e_rho_nil, e_rho, e_fint, e_flist, e_rv, e_eqi, e_len_t, e_tb, String.reduceBEq, e_idx_t, Option.bind_eq_bind, Option.bind_some, Option.map_some, if_true, if_false, Bool.false_eq_true, List.length_cons, Bool.not_true, Bool.not_false, isTo_tuple, fix_x, tt_tup, len_zero, at_0, isTo_ok (dn_inst hx.1), h]) (seqRet (by simp only [run_eq, e_ret, Option.bind_some])))
  | noForm k xs h b =>
    rw [b]
    refine seq (ifR_no (by simp only [tst_eq, cond_true, cond_false, e_rho_nil, e_rho, e_fint, e_fstr, e_flist, e_rv, e_eqi, e_len_t, e_tb, String.reduceBEq, e_idx_t, Option.bind_eq_bind, Option.bind_some, Option.map_some, if_false, Bool.false_eq_true, List.length_cons, isTo_str, isTo_tuple, fix_x, len_zero, at_0, isT, tyName]; rfl) rfl) ?_
    refine seqOwn "_law_forms" (.dct (tableD formP (tableS.take 7))) (by kernel_rfl) (seqOwn "_law_forms" (.dct (tableD formP tableS)) (by kernel_rfl) ?_)
    exact seqRet (ifR_yes (by simp only [tst_eq, e_set, cond_true, cond_false, e_rho_nil, e_rho, e_fint, e_fstr, e_flist, e_rv, e_rd, e_len_t, String.reduceBEq, e_idx_t, Option.bind_eq_bind, Option.bind_some, Option.map_some, List.length_cons, fix_x, at_0, notin_shapes, h]; rfl) (seqRet (by simp only [run_eq, e_ret, Option.bind_some])))
  | size k xs sh h h' b =>
    rw [b]
    refine seq (ifR_no (by simp only [tst_eq, cond_true, cond_false, e_rho_nil, e_rho, e_fint, e_fstr, e_flist, e_rv, e_eqi, e_len_t, e_tb, String.reduceBEq, e_idx_t, Option.bind_eq_bind, Option.bind_some, Option.map_some, if_false, Bool.false_eq_true, List.length_cons, isTo_str, isTo_tuple, fix_x, len_zero, at_0, isT, tyName]; rfl) rfl) ?_
    refine seqOwn "_law_forms" (.dct (tableD formP (tableS.take 7))) (by kernel_rfl) (seqOwn "_law_forms" (.dct (tableD formP tableS)) (by kernel_rfl) ?_)
    exact seqRet (ifR_yes (by simp only [tst_eq, e_add, e_set, cond_true, cond_false, e_rho_nil, e_rho, e_fint, e_fstr, e_flist, e_rv, e_rd, e_nei, e_len_t, e_len_s, String.reduceBEq, e_idx_t, S_length, Option.bind_eq_bind, Option.bind_some, Option.map_some, if_true, List.length_cons, Bool.not_false, fix_x, at_0, notin_shapes, idx_shapes, h, formP, List.length_map, len_ne, decide_eq_false h']; rfl) (seqRet (by simp only [run_eq, e_ret, Option.bind_some])))
  | fine k xs sh h h' b =>
    rw [b]
    simp only [dn, dns, Bool.and_eq_true] at hx
    refine seq (ifR_no (by simp only [tst_eq, cond_true, cond_false, e_rho_nil, e_rho, e_fint, e_fstr, e_flist, e_rv, e_eqi, e_len_t, e_tb, String.reduceBEq, e_idx_t, Option.bind_eq_bind, Option.bind_some, Option.map_some, if_false, Bool.false_eq_true, List.length_cons, isTo_str, isTo_tuple, fix_x, len_zero, at_0, isT, tyName]; rfl) rfl) ?_
    refine seqOwn "_law_forms" (.dct (tableD formP (tableS.take 7))) (by kernel_rfl) (seqOwn "_law_forms" (.dct (tableD formP tableS)) (by kernel_rfl) ?_)
    refine seq (ifR_no (by simp only [tst_eq, e_add, e_set, cond_true, cond_false, e_rho_nil, e_rho, e_fint, e_fstr, e_flist, e_rv, e_rd, e_nei, e_len_t, e_len_s, String.reduceBEq, e_idx_t, S_length, Option.bind_eq_bind, Option.bind_some, Option.map_some, if_false, Bool.false_eq_true, List.length_cons, Bool.not_true, fix_x, at_0, notin_shapes, idx_shapes, h, formP, List.length_map, len_ne, decide_eq_true h']; rfl) rfl) ?_
    refine Eq.trans (loop_allR (f := (V.fix (.tuple xs) (V.fix (.tuple (.str k :: xs)) .s).fl).fl) (fun p : Srt × PyData => .tuple [.str ⟨#[p.1.code]⟩, p.2]) (fun p => srtB known size p.1 p.2) (fun ρ => ρ "_law_known" = some (.val ⟨.list (known.map .str), .s⟩) ∧ ρ "_law_size" = some (.val ⟨.int size, .d⟩)) (.bool false) (sh.zip xs)
      (by simp only [itr_eq, e_set, cond_true, cond_false, e_rho_nil, e_rho, e_fint, e_fstr, e_flist, e_rv, e_rd, String.reduceBEq, e_idx_t, Option.bind_eq_bind, Option.bind_some, Option.map_some, if_true, fix_x, at_0, idx_shapes, h, formP, drop_one, tuplD, keyOf, code_lt, zip_form]) (fix_ne (fix_ne (by decide))) ?_ ⟨by simp only [e_set, cond_true, cond_false, e_rho_nil, e_rho, e_fint, e_flist, String.reduceBEq], by simp only [e_set, cond_true, cond_false, e_rho_nil, e_rho, e_fint, e_flist, String.reduceBEq]⟩ (fun ρ' _ => seqRet (y := .bool true) (by simp only [run_eq, e_ret, Option.bind_some]))) (by rw [zip_all (srtB known size) xs sh, ob_bool])
    generalize hff : (V.fix (.tuple xs) (V.fix (.tuple (.str k :: xs)) .s).fl).fl = ff
    have hne : ff ≠ .t := by rw [← hff]; exact fix_ne (fix_ne (by decide))
    rintro ⟨t, x⟩ hz ρ ⟨r1, r2⟩
    have hi : instD x = false := dn_inst (dns_mem hx.2 (List.of_mem_zip hz).2)
    have en := e_n x hi
    have ew := e_w x hi
    refine ⟨_, by simp only [e_fstr, e_putRd, e_putn, e_putc, Option.bind_some, List.map_cons, List.map_nil, tup_fix, put_fixf hne]; rfl, ?_⟩
    cases t with
    | N =>
      show (nameB x = true ∧ _) ∨ (nameB x = false ∧ _)
      cases hn : nameB x with
      | true => exact .inl ⟨rfl, _, seq (ifR_no (by simp only [tst_eq, e_set, cond_true, cond_false, e_rv, e_eqs, e_tb, String.reduceBEq, Option.bind_eq_bind, Option.bind_some, Option.map_some, if_true, if_false, Bool.false_eq_true, List.map_cons, List.map_nil, Bool.not_true, Srt.code, c_n, fix_x, en, hn]) rfl) (seq (ifR_no (by kernel_rfl) rfl) (seq (ifR_no (by kernel_rfl) rfl) (seq (ifR_no (by kernel_rfl) rfl) rfl))), by simp only [e_set, cond_false, String.reduceBEq, r1], by simp only [e_set, cond_false, String.reduceBEq, r2]⟩
      | false => exact .inr ⟨rfl, seqRet (ifR_yes (by simp only [tst_eq, e_set, cond_true, cond_false, e_rv, e_eqs, e_tb, String.reduceBEq, Option.bind_eq_bind, Option.bind_some, Option.map_some, if_true, List.map_cons, List.map_nil, Bool.not_false, Srt.code, c_n, fix_x, en, hn]) (seqRet (by simp only [run_eq, e_ret, Option.bind_some])))⟩
    | P =>
      show ((nameB x && inK known x) = true ∧ _) ∨ ((nameB x && inK known x) = false ∧ _)
      cases hn : nameB x with
      | false => exact .inr ⟨rfl, seq (ifR_no (by kernel_rfl) rfl) (seqRet (ifR_yes (by simp only [tst_eq, e_set, cond_true, cond_false, e_rv, e_eqs, e_tb, String.reduceBEq, Option.bind_eq_bind, Option.bind_some, Option.map_some, if_true, List.map_cons, List.map_nil, Bool.not_false, Srt.code, c_p, fix_x, en, hn]) (seqRet (by simp only [run_eq, e_ret, Option.bind_some]))))⟩
      | true =>
        obtain ⟨a, rfl⟩ := name_str hn
        show ((true && decide (a ∈ known)) = true ∧ _) ∨ ((true && decide (a ∈ known)) = false ∧ _)
        cases hk : decide (a ∈ known) with
        | false => exact .inr ⟨rfl, seq (ifR_no (by kernel_rfl) rfl) (seqRet (ifR_yes (by simp only [tst_eq, e_set, cond_true, cond_false, e_fstr, e_rv, e_eqs, e_tb, String.reduceBEq, Option.bind_eq_bind, Option.bind_some, Option.map_some, if_true, if_false, Bool.false_eq_true, List.map_cons, List.map_nil, Bool.not_true, Bool.not_false, Srt.code, c_p, en, hn, r1, notin_strs, hk]) (seqRet (by simp only [run_eq, e_fstr, e_ret, Option.bind_some]))))⟩
        | true => exact .inl ⟨rfl, _, seq (ifR_no (by kernel_rfl) rfl) (seq (ifR_no (by simp only [tst_eq, e_set, cond_true, cond_false, e_fstr, e_rv, e_eqs, e_tb, String.reduceBEq, Option.bind_eq_bind, Option.bind_some, Option.map_some, if_true, if_false, Bool.false_eq_true, List.map_cons, List.map_nil, Bool.not_true, Srt.code, c_p, en, hn, r1, notin_strs, hk]) rfl) (seq (ifR_no (by kernel_rfl) rfl) (seq (ifR_no (by kernel_rfl) rfl) rfl))), by simp only [e_set, cond_false, e_fstr, String.reduceBEq, r1], by simp only [e_set, cond_false, e_fstr, String.reduceBEq, r2]⟩
    | W =>
      show (numB x = true ∧ _) ∨ (numB x = false ∧ _)
      cases hw : wholeB x with
      | false => exact .inr ⟨num_no hw, seq (ifR_no (by kernel_rfl) rfl) (seq (ifR_no (by kernel_rfl) rfl) (seqRet (ifR_yes (by simp only [tst_eq, e_set, cond_true, cond_false, e_rv, e_eqs, e_tb, String.reduceBEq, Option.bind_eq_bind, Option.bind_some, Option.map_some, if_true, List.map_cons, List.map_nil, Bool.not_false, Srt.code, c_w, fix_x, ew, hw]) (seqRet (by simp only [run_eq, e_ret, Option.bind_some])))))⟩
      | true =>
        obtain ⟨i, rfl⟩ := whole_int hw
        rw [← abs_num]
        cases hk : decide ((if i < 0 then -i else i) > 1000000000000000000) with
        | true => exact .inr ⟨rfl, seq (ifR_no (by kernel_rfl) rfl) (seq (ifR_no (by kernel_rfl) rfl) (seqRet (ifR_yes (by simp only [tst_eq, e_set, cond_true, cond_false, e_fint, e_rv, e_gt, e_eqs, e_tb, String.reduceBEq, Option.bind_eq_bind, Option.bind_some, Option.map_some, if_true, if_false, Bool.false_eq_true, List.map_cons, List.map_nil, Bool.not_true, Srt.code, c_w, ew, hw, aAbs, intOf, hk]) (seqRet (by simp only [run_eq, e_fint, e_ret, Option.bind_some])))))⟩
        | false => exact .inl ⟨rfl, _, seq (ifR_no (by kernel_rfl) rfl) (seq (ifR_no (by kernel_rfl) rfl) (seq (ifR_no (by simp only [tst_eq, e_set, cond_true, cond_false, e_fint, e_rv, e_gt, e_eqs, e_tb, String.reduceBEq, Option.bind_eq_bind, Option.bind_some, Option.map_some, if_true, if_false, Bool.false_eq_true, List.map_cons, List.map_nil, Bool.not_true, Srt.code, c_w, ew, hw, aAbs, intOf, hk]) rfl) (seq (ifR_no (by kernel_rfl) rfl) rfl))), by simp only [e_set, cond_false, e_fint, String.reduceBEq, r1], by simp only [e_set, cond_false, e_fint, String.reduceBEq, r2]⟩
    | A =>
      show (placeB size x = true ∧ _) ∨ (placeB size x = false ∧ _)
      cases hw : wholeB x with
      | false => exact .inr ⟨place_no hw, seq (ifR_no (by kernel_rfl) rfl) (seq (ifR_no (by kernel_rfl) rfl) (seq (ifR_no (by kernel_rfl) rfl) (seqRet (ifR_yes (by simp only [tst_eq, e_set, cond_true, cond_false, e_rv, e_eqs, e_tb, String.reduceBEq, Option.bind_eq_bind, Option.bind_some, Option.map_some, if_true, List.map_cons, List.map_nil, Bool.not_false, Srt.code, c_a, fix_x, ew, hw]) (seqRet (by simp only [run_eq, e_ret, Option.bind_some]))))))⟩
      | true =>
        obtain ⟨i, rfl⟩ := whole_int hw
        rw [← place_of]
        cases hk : decide (i < 0) with
        | true => exact .inr ⟨rfl, seq (ifR_no (by kernel_rfl) rfl) (seq (ifR_no (by kernel_rfl) rfl) (seq (ifR_no (by kernel_rfl) rfl) (seqRet (ifR_yes (by simp only [tst_eq, e_set, cond_true, cond_false, e_fint, e_rv, e_lt, e_eqs, e_tb, String.reduceBEq, Option.bind_eq_bind, Option.bind_some, Option.map_some, if_true, if_false, Bool.false_eq_true, List.map_cons, List.map_nil, Bool.not_true, Srt.code, c_a, ew, hw, hk]) (seqRet (by simp only [run_eq, e_fint, e_ret, Option.bind_some]))))))⟩
        | false =>
          cases hk' : decide (i > size) with
          | true => exact .inr ⟨rfl, seq (ifR_no (by kernel_rfl) rfl) (seq (ifR_no (by kernel_rfl) rfl) (seq (ifR_no (by kernel_rfl) rfl) (seqRet (ifR_yes (by simp only [tst_eq, e_set, cond_true, cond_false, e_fint, e_rv, e_lt, e_gt, e_eqs, e_tb, String.reduceBEq, Option.bind_eq_bind, Option.bind_some, Option.map_some, if_true, if_false, Bool.false_eq_true, List.map_cons, List.map_nil, Bool.not_true, Srt.code, c_a, ew, hw, hk, r2, hk']) (seqRet (by simp only [run_eq, e_fint, e_ret, Option.bind_some]))))))⟩
          | false => exact .inl ⟨rfl, _, seq (ifR_no (by kernel_rfl) rfl) (seq (ifR_no (by kernel_rfl) rfl) (seq (ifR_no (by kernel_rfl) rfl) (seq (ifR_no (by simp only [tst_eq, e_set, cond_true, cond_false, e_fint, e_rv, e_lt, e_gt, e_eqs, e_tb, String.reduceBEq, Option.bind_eq_bind, Option.bind_some, Option.map_some, if_true, if_false, Bool.false_eq_true, List.map_cons, List.map_nil, Bool.not_true, Srt.code, c_a, ew, hw, hk, r2, hk']) rfl) rfl))), by simp only [e_set, cond_false, e_fint, String.reduceBEq, r1], by simp only [e_set, cond_false, e_fint, String.reduceBEq, r2]⟩
noncomputable def rowAt (known : List Str) (size : Int) : Nat → List PyData → Option Nat
  | _, [] => none
  | i, x :: xs => if rowB known size x = true then rowAt known size (i + 1) xs else some i
noncomputable def badR (known : List Str) : PyData → Option PyData
  | .list xs => if xs.length > 60 then some .none else (rowAt known xs.length 0 xs).map fun (i : Nat) => .int i
  | _ => some .none
theorem badR_list {known : List Str} {xs : List PyData} : badR known (.list xs) = if xs.length > 60 then some .none else (rowAt known xs.length 0 xs).map fun (i : Nat) => .int i := rfl
theorem badR_no {known : List Str} {x : PyData} (h : isT "list" x = false) : badR known x = some .none := by
  cases x with
  | list s => simp [isT, tyName] at h
  | _ => rfl
noncomputable def knownP : PyData → List Str
  | .list ps => ps.map fstS
  | _ => []
inductive FineP : PyData → Prop
  | none (a : Str) : FineP (.tuple [.str a, .none])
  | str (a c : Str) : FineP (.tuple [.str a, .str c])
theorem fine_of : ∀ {xs : List PyData} {i : Nat} {ahead : List Str}, badAt i ahead xs = none → ∀ x ∈ xs, FineP x
  | [], _, _, _, _, hx => nomatch hx
  | y :: ys, i, ahead, h, x, hx => by
    unfold badAt at h
    split at h
    · exact no h.symm
    · rename_i hb
      rcases List.mem_cons.mp hx with rfl | hx
      · have hp : pairBad ahead x = false := by simpa using hb
        induction pair_kind ahead x with
        | none a h h' b => exact .none a
        | fine a c h h' h2 h3 b => exact .str a c
        | other x h b => rw [b] at hp; exact Bool.noConfusion hp
        | size xs h b => rw [b] at hp; exact Bool.noConfusion hp
        | noName x y h b => rw [b] at hp; exact Bool.noConfusion hp
        | again a y h h' b => rw [b] at hp; exact Bool.noConfusion hp
        | outer a y h h' hn h2 b => rw [b] at hp; exact Bool.noConfusion hp
        | unknown a c h h' h2 h3 b => rw [b] at hp; exact Bool.noConfusion hp
      · exact fine_of h x hx
theorem badP_none {p : PyData} (h : badP p = none) : ∃ ps, p = .list ps ∧ ps.length ≤ 12 ∧ ∀ x ∈ ps, FineP x := by
  cases ht : isT "list" p with
  | false => rw [badP_no ht] at h; exact no h.symm
  | true =>
    obtain ⟨ps, rfl⟩ := isT_lst ht
    rw [badP_list] at h
    split at h
    · exact no h.symm
    · rename_i hl
      refine ⟨ps, rfl, by lia, ?_⟩
      cases hb : badAt 0 [] ps with
      | some k => rw [hb] at h; exact no h.symm
      | none => exact fine_of hb
theorem known_map (ps : List PyData) : (ps.map fun x => PyData.str (fstS x)) = (ps.map fstS).map .str := by rw [List.map_map]; rfl
theorem rows_ret {mi : Rho → Option (List PyData × Fl)} {bind : V → Rho → Option Rho} {body m' : Rho → Option Out} {ρ : Rho} {yN : PyData} {known : List Str} {size : Int} (xs : List PyData) (P : Rho → Prop) (R : Nat → PyData) (hi : itr mi ρ = some (enumD xs, .s)) (hd : dns xs = true) (h0 : P ρ)
    (hs : ∀ (i : Nat) (x : PyData) (ρ : Rho), dn x = true → P ρ → ∃ ρ₁, bind (V.fix (.tuple [.int i, x]) .s) ρ = some ρ₁ ∧ ((rowB known size x = false ∧ run body ρ₁ = some (.ret (R i))) ∨ (rowB known size x = true ∧ ∃ ρ₂, run body ρ₁ = some (.next ρ₂) ∧ P ρ₂)))
    (hf : ∀ ρ', P ρ' → run m' ρ' = some (.ret yN)) :
    run (fun ρ => ((mi ρ).bind fun v => if v.2 = .t then none else forD bind body v.2 v.1 ρ).bind (thenB m')) ρ = some (.ret (((rowAt known size 0 xs).map R).getD yN)) := by
  have loop : ∀ (xs : List PyData) (i : Nat) (ρ : Rho), dns xs = true → P ρ → (∃ k, rowAt known size i xs = some k ∧ forD bind body .s ((xs.zipIdx i).map fun p => .tuple [.int p.2, p.1]) ρ = some (.ret (R k))) ∨ (rowAt known size i xs = none ∧ ∃ ρ', forD bind body .s ((xs.zipIdx i).map fun p => .tuple [.int p.2, p.1]) ρ = some (.next ρ') ∧ P ρ') := by
    intro xs
    induction xs with
    | nil => exact fun i ρ _ hP => .inr ⟨rfl, ρ, rfl, hP⟩
    | cons x xs ih =>
      intro i ρ hd hP
      simp only [dns, Bool.and_eq_true] at hd
      obtain ⟨ρ₁, hb, h⟩ := hs i x ρ hd.1 hP
      rw [List.zipIdx_cons, List.map_cons]
      unfold rowAt
      rcases h with ⟨hp, h⟩ | ⟨hp, ρ₂, h, hP'⟩
      · rw [if_neg (by rw [hp]; decide)]
        exact .inl ⟨i, rfl, forD_ret hb h⟩
      · rw [if_pos hp]
        rcases ih (i + 1) ρ₂ hd.2 hP' with ⟨k, e, q⟩ | ⟨e, ρ', q, hq⟩
        · exact .inl ⟨k, e, forD_next hb h q⟩
        · exact .inr ⟨e, ρ', forD_next hb h q, hq⟩
  rcases loop xs 0 ρ hd h0 with ⟨k, e, q⟩ | ⟨e, ρ', q, hq⟩
  · rw [e]
    exact seqRet (forR (enumD xs) .s hi (by decide) q)
  · rw [e]
    exact seq (forR (enumD xs) .s hi (by decide) q) (hf ρ' hq)
theorem rows_x {mi : Rho → Option (List PyData × Fl)} {bind : V → Rho → Option Rho} {body m' : Rho → Option OutX} {ρ : Rho} {r : OutX} {known : List Str} {size : Int} (xs : List PyData) (P : Rho → Prop) (c : Addr) (hi : itr mi ρ = some (enumD xs, .s)) (hd : dns xs = true) (h0 : P ρ)
    (hs : ∀ (i : Nat) (x : PyData) (ρ : Rho), dn x = true → P ρ → ∃ ρ₁, bind (V.fix (.tuple [.int i, x]) .s) ρ = some ρ₁ ∧ ((rowB known size x = false ∧ runX body ρ₁ = some (.exc c (.int i))) ∨ (rowB known size x = true ∧ ∃ ρ₂, runX body ρ₁ = some (.out (.next ρ₂)) ∧ P ρ₂)))
    (hf : ∀ ρ', P ρ' → runX m' ρ' = some r) :
    runX (fun ρ => ((mi ρ).bind fun v => if v.2 = .t then none else forX bind body v.2 v.1 ρ).bind (thenX m')) ρ = some (((rowAt known size 0 xs).map fun (k : Nat) => OutX.exc c (.int k)).getD r) := by
  have loop : ∀ (xs : List PyData) (i : Nat) (ρ : Rho), dns xs = true → P ρ → (∃ k, rowAt known size i xs = some k ∧ forX bind body .s ((xs.zipIdx i).map fun p => .tuple [.int p.2, p.1]) ρ = some (.exc c (.int k))) ∨ (rowAt known size i xs = none ∧ ∃ ρ', forX bind body .s ((xs.zipIdx i).map fun p => .tuple [.int p.2, p.1]) ρ = some (.out (.next ρ')) ∧ P ρ') := by
    intro xs
    induction xs with
    | nil => exact fun i ρ _ hP => .inr ⟨rfl, ρ, rfl, hP⟩
    | cons x xs ih =>
      intro i ρ hd hP
      simp only [dns, Bool.and_eq_true] at hd
      obtain ⟨ρ₁, hb, h⟩ := hs i x ρ hd.1 hP
      rw [List.zipIdx_cons, List.map_cons]
      unfold rowAt
      rcases h with ⟨hp, h⟩ | ⟨hp, ρ₂, h, hP'⟩
      · rw [if_neg (by rw [hp]; decide)]
        exact .inl ⟨i, rfl, forX_exc hb h⟩
      · rw [if_pos hp]
        rcases ih (i + 1) ρ₂ hd.2 hP' with ⟨k, e, q⟩ | ⟨e, ρ', q, hq⟩
        · exact .inl ⟨k, e, forX_next hb h q⟩
        · exact .inr ⟨e, ρ', forX_next hb h q, hq⟩
  rcases loop xs 0 ρ hd h0 with ⟨k, e, q⟩ | ⟨e, ρ', q, hq⟩
  · rw [e]
    exact xexc (xfor (enumD xs) .s hi (by decide) q)
  · rw [e]
    exact xseq (xfor (enumD xs) .s hi (by decide) q) (hf ρ' hq)
theorem badrow_ok (B : Bui hb) (HE : GName hb "enumerate" (.type "enumerate")) (D : DefAt hb "_law_bad_row" (fnS pw 27) ["_law_plots_here", "_law_rows"] (fnB pw 27)) {m_g : List PyData → Option PyData} (h_law_good_row : DefG pw w hb 3 "_law_good_row" m_g) (e_g : ∀ (x : PyData) (known : List Str) (size : Int), dn x = true → m_g [x, .list (known.map .str), .int size] = some (.bool (rowB known size x))) :
    ∃ m, DefG pw w hb 4 "_law_bad_row" m ∧ ∀ p r : PyData, badP p = none → dn r = true → m [p, r] = some (.tuple [.bool (badR (knownP p) r).isSome, (badR (knownP p) r).getD .none]) := by
  refine ⟨_, DefG.of D (n := 3) (St.cons (S1.if (Tr.all (Trs.consOr (Tr.not (Tr.val (Ev.isinst tyOk_list (by decide +kernel) B.isinstance (by decide +kernel) B.list Ev.v (by intro _; rfl)) (by intro _ _; rfl))) (Trs.consOr (Tr.cmp (Ev.len B (Evs.cons Ev.v Evs.nil) (by decide +kernel) (by intro _; rfl)) Ev.cint) Trs.nilOr))) (St.cons (S1.ret (Ev.tuple (Evs.cons Ev.cbool (Evs.cons Ev.cnone Evs.nil))))
      St.nil) St.nil)
    (St.cons (S1.assignComp (locs := [".0", "_law_plot", "_law_outer"]) (by decide +kernel) (It.data Ev.v (by intro _ _; rfl)) (TgL.tuple (xs := ["_law_plot", "_law_outer"]) (by decide +kernel) (by decide +kernel) rfl (by intro _; rfl)) Ifs.nil Ev.v (by decide +kernel))
    (St.cons (S1.for (It.enum HE Ev.v (by decide +kernel) (by intro _; rfl)) (Tg.tuple (xs := ["_law_at_here", "_law_row_here"]) (by decide +kernel) rfl (by intro _; rfl)) (St.cons (S1.if (Tr.not (Tr.val (Ev.def h_law_good_row (Evs.cons Ev.v (Evs.cons Ev.v (Evs.cons (Ev.len B (Evs.cons Ev.v Evs.nil) (by decide +kernel) (by intro _; rfl)) Evs.nil))) (by decide +kernel) (by decide) (by intro _; rfl)) (by intro _ _; rfl))) (St.cons (S1.ret (Ev.tuple (Evs.cons Ev.cbool (Evs.cons Ev.v Evs.nil))))
        St.nil) St.nil)
      St.nil))
    (St.cons (S1.ret (Ev.tuple (Evs.cons Ev.cbool (Evs.cons Ev.cnone Evs.nil))))
    St.nil)))) _ (fun _ _ h => h), ?_⟩
  intro p r hp hr
  obtain ⟨ps, rfl, hl, hf⟩ := badP_none hp
  rw [show knownP (.list ps) = ps.map fstS from rfl]
  refine fn_ret rfl ?_
  cases ht : isT "list" r with
  | false =>
    rw [badR_no ht]
    refine seqRet (ifR_yes (by simp only [tst_eq, cond_true, cond_false, e_rho_nil, e_rho, e_flist, e_rv, e_tb, String.reduceBEq, Option.bind_eq_bind, Option.bind_some, Option.map_some, if_true, Bool.not_false, isTo_ok (dn_inst hr), fix_x, ht]) (seqRet ?_))
    simp only [run_eq, e_ret, fix_d, le_line, fls_nil, fls_d, Option.bind_eq_bind, Option.bind_some, if_true, List.map_cons, List.map_nil, List.length_cons, List.length_nil, Nat.reduceAdd, Nat.reduceLeDiff]
    rfl
  | true =>
    obtain ⟨xs, rfl⟩ := isT_lst ht
    have hr : dns xs = true := hr
    by_cases hl : xs.length > 60
    · have hl' : decide (((xs.length : Nat) : Int) > 60) = true := decide_eq_true (by lia)
      rw [badR_list, if_pos hl]
      refine seqRet (ifR_yes (by simp only [tst_eq, cond_true, cond_false, e_rho_nil, e_rho, e_flist, e_rv, e_gt, e_len_l, e_tb, String.reduceBEq, Option.bind_eq_bind, Option.bind_some, Option.map_some, if_true, if_false, Bool.false_eq_true, Bool.not_true, isTo_list, ht, hl']) (seqRet ?_))
      simp only [run_eq, e_ret, fix_d, le_line, fls_nil, fls_d, Option.bind_eq_bind, Option.bind_some, if_true, List.map_cons, List.map_nil, List.length_cons, List.length_nil, Nat.reduceAdd, Nat.reduceLeDiff]
      rfl
    · have hl' : decide (((xs.length : Nat) : Int) > 60) = false := decide_eq_false (by lia)
      rw [badR_list, if_neg hl]
      refine seq (ifR_no (by simp only [tst_eq, cond_true, cond_false, e_rho_nil, e_rho, e_flist, e_rv, e_gt, e_len_l, e_tb, String.reduceBEq, Option.bind_eq_bind, Option.bind_some, Option.map_some, if_false, Bool.false_eq_true, Bool.not_true, isTo_list, ht, hl']) rfl) ?_
      refine seq (by
        simp only [run_eq, cond_true, cond_false, e_rho_nil, e_rho, e_flist, e_rv, String.reduceBEq, Option.bind_some, compV, itemsOf]
        rw [show ps = ps.map id from (List.map_id ps).symm, comp_map id (fun x => .str (fstS x)) (fun x hx => by
          induction hf x hx with
          | none a => kernel_rfl
          | str a c => kernel_rfl), known_map]
        simp only [Option.map_some]; rfl) ?_
      refine Eq.trans (rows_ret (known := ps.map fstS) (size := xs.length) xs (fun ρ => ρ "_law_known" = some (.val ⟨.list ((ps.map fstS).map .str), .d⟩) ∧ ρ "_law_rows" = some (.val ⟨.list xs, .s⟩)) (fun i => .tuple [.bool true, .int i]) (by simp only [itr_eq, e_set, cond_true, cond_false, e_rho_nil, e_rho, e_flist, e_rv, String.reduceBEq, Option.bind_some, Option.map_some, listOfD]) hr ⟨by simp only [e_set, cond_true, cond_false, e_rho_nil, e_rho, e_flist, String.reduceBEq], by simp only [e_set, cond_true, cond_false, e_rho_nil, e_rho, e_flist, String.reduceBEq]⟩ ?_ (fun ρ' _ => seqRet (y := .tuple [.bool false, .none]) (by simp only [run_eq, e_ret, fix_d, le_line, fls_nil, fls_d, Option.bind_eq_bind, Option.bind_some, if_true, List.map_cons, List.map_nil, List.length_cons, List.length_nil, Nat.reduceAdd, Nat.reduceLeDiff]))) (by cases rowAt (ps.map fstS) xs.length 0 xs <;> rfl)
      rintro i x ρ hx ⟨r1, r2⟩
      refine ⟨_, by simp only [e_fint, e_putRd, e_putn, e_putc, Option.bind_some, List.map_cons, List.map_nil, tup_fix, put_fix]; rfl, ?_⟩
      have eg := e_g x (ps.map fstS) xs.length hx
      cases hb : rowB (ps.map fstS) xs.length x with
      | false => exact .inl ⟨rfl, seqRet (ifR_yes (by simp only [tst_eq, e_set, cond_true, cond_false, e_rv, e_len_l, e_tb, String.reduceBEq, Option.bind_eq_bind, Option.bind_some, Option.map_some, List.map_cons, List.map_nil, Bool.not_false, fix_x, r1, r2, eg, hb]) (seqRet (by simp only [run_eq, e_set, cond_true, cond_false, e_rv, e_ret, fix_d, String.reduceBEq, le_line, fls_nil, fls_d, Option.bind_eq_bind, Option.bind_some, if_true, List.map_cons, List.map_nil, List.length_cons, List.length_nil, Nat.reduceAdd, Nat.reduceLeDiff])))⟩
      | true => exact .inr ⟨rfl, _, seq (ifR_no (by simp only [tst_eq, e_set, cond_true, cond_false, e_rv, e_len_l, e_tb, String.reduceBEq, Option.bind_eq_bind, Option.bind_some, Option.map_some, List.map_cons, List.map_nil, Bool.not_true, fix_x, r1, r2, eg, hb]) rfl) rfl, by simp only [e_set, cond_false, String.reduceBEq, r1], by simp only [e_set, cond_false, String.reduceBEq, r2]⟩
noncomputable def needD (BP BR : Addr) (p r : PyData) : PyData ⊕ Addr × PyData := match badP p with
  | some a => .inr (BP, a)
  | none => match badR (knownP p) r with
    | some a => .inr (BR, a)
    | none => .inl (.bool true)
theorem needD_p {BP BR : Addr} {p r a : PyData} (h : badP p = some a) : needD BP BR p r = .inr (BP, a) := by unfold needD; rw [h]
theorem needD_r {BP BR : Addr} {p r a : PyData} (h : badP p = none) (h' : badR (knownP p) r = some a) : needD BP BR p r = .inr (BR, a) := by unfold needD; rw [h]; dsimp only; rw [h']
theorem needD_f {BP BR : Addr} {p r : PyData} (h : badP p = none) (h' : badR (knownP p) r = none) : needD BP BR p r = .inl (.bool true) := by unfold needD; rw [h]; dsimp only; rw [h']
theorem xof_call {ρ : Rho} {m : List PyData → Option (PyData ⊕ Addr × PyData)} {ms : Rho → Option (List V)} {vs : List V} {y : PyData ⊕ Addr × PyData} (h1 : ms ρ = some vs) (h2 : m (vs.map (·.x)) = some y) : runX (fun ρ => (ms ρ).bind fun vs => (m (vs.map (·.x))).map (callOut ρ)) ρ = some (callOut ρ y) := by
  show (ms ρ).bind _ = _
  rw [h1, Option.bind_some, h2]; rfl
theorem need_ok {BP BR : Addr} (X_BadRows : ExcG hb "BadRows" BR) (g_MOST_ROWS : GData pw w hb "MOST_ROWS" (.int 60)) (B : Bui hb) (HE : GName hb "enumerate" (.type "enumerate")) (D : DefAt hb "need" (fnS pw 16) ["plots", "rows"] (fnB pw 16)) {m_p : List PyData → Option (PyData ⊕ Addr × PyData)} (h_need_plots : DefX pw w hb 3 "need_plots" m_p)
    (e_p : ∀ p : PyData, dn p = true → m_p [p] = some (((badP p).map fun a => Sum.inr (BP, a)).getD (.inl .none))) {m_r : List PyData → Option PyData} (h_is_row : DefG pw w hb 4 "is_row" m_r) (e_r : ∀ (x : PyData) (known : List Str) (size : Int), dn x = true → m_r [x, .list (known.map .str), .int size] = some (.bool (rowB known size x))) :
    ∃ m, DefX pw w hb 5 "need" m ∧ ∀ p r : PyData, dn p = true → dn r = true → m [p, r] = some (needD BP BR p r) := by
  refine ⟨_, DefX.of D (n := 4) (StX.cons (S1X.call h_need_plots (Evs.cons Ev.v Evs.nil) (by decide +kernel) (by decide) (by intro _; rfl) (by intro env h; unfold interactive; rw [h]; rfl))
    (StX.cons (S1X.if (Tr.all (Trs.consOr (Tr.not (Tr.val (Ev.isinst tyOk_list (by decide +kernel) B.isinstance (by decide +kernel) B.list Ev.v (by intro _; rfl)) (by intro _ _; rfl))) (Trs.consOr (Tr.cmp (Ev.len B (Evs.cons Ev.v Evs.nil) (by decide +kernel) (by intro _; rfl)) (Ev.gdata g_MOST_ROWS (by decide +kernel))) Trs.nilOr))) (StX.cons (S1X.raise X_BadRows (Evs.cons Ev.s (Evs.cons Ev.cnone Evs.nil)) (by decide +kernel) (by decide) (by intro _; rfl) (by intro _; rfl))
      (StX.of St.nil)) (StX.of St.nil))
    (StX.cons (S1X.of (S1.assignComp (locs := [".0", "pair"]) (by decide +kernel) (It.data Ev.v (by intro _ _; rfl)) (TgL.name (by decide +kernel) (by decide +kernel)) Ifs.nil (Ev.idx Ev.v Ev.cint) (by decide +kernel)))
    (StX.cons (S1X.for (It.enum HE Ev.v (by decide +kernel) (by intro _; rfl)) (Tg.tuple (xs := ["at", "row"]) (by decide +kernel) rfl (by intro _; rfl)) (StX.cons (S1X.if (Tr.not (Tr.val (Ev.def h_is_row (Evs.cons Ev.v (Evs.cons Ev.v (Evs.cons (Ev.len B (Evs.cons Ev.v Evs.nil) (by decide +kernel) (by intro _; rfl)) Evs.nil))) (by decide +kernel) (by decide) (by intro _; rfl)) (by intro _ _; rfl))) (StX.cons (S1X.raise X_BadRows (Evs.cons Ev.s (Evs.cons Ev.v Evs.nil)) (by decide +kernel) (by decide) (by intro _; rfl) (by intro _; rfl))
        (StX.of St.nil)) (StX.of St.nil))
      (StX.of St.nil)))
    (StX.cons (S1X.of (S1.ret Ev.cbool))
    (StX.of St.nil)))))) _ (fun _ _ h => h), ?_⟩
  intro p r hp hr
  have ep := e_p p hp
  cases hb' : badP p with
  | some a =>
    have ep : m_p [p] = some (.inr (BP, a)) := by rw [ep, hb']; rfl
    rw [needD_p hb']
    exact fnX_run (ps := ["plots", "rows"]) (r := .exc BP a) rfl (xexc (xof_call (vs := [V.fix p .s]) (by kernel_rfl) (y := .inr (BP, a)) ep))
  | none =>
    have ep : m_p [p] = some (.inl .none) := by rw [ep, hb']; rfl
    obtain ⟨ps, rfl, hl, hf⟩ := badP_none hb'
    have hk : knownP (.list ps) = ps.map fstS := rfl
    cases ht : isT "list" r with
    | false =>
      rw [needD_r (a := .none) hb' (badR_no ht)]
      exact fnX_run (ps := ["plots", "rows"]) (r := .exc BR .none) rfl (xseq (xof_call (vs := [V.fix (.list ps) .s]) (by kernel_rfl) (y := .inl .none) ep) (xexc (xif_yes (by simp only [tst_eq, cond_true, cond_false, e_rho_nil, e_rho, e_fint, e_flist, e_rv, e_tb, String.reduceBEq, Option.bind_eq_bind, Option.bind_some, Option.map_some, if_true, Bool.not_false, isTo_ok (dn_inst hr), fix_x, ht]) (xexc (by kernel_rfl)))))
    | true =>
      obtain ⟨xs, rfl⟩ := isT_lst ht
      have hr : dns xs = true := hr
      by_cases hl : xs.length > 60
      · have hl' : decide (((xs.length : Nat) : Int) > 60) = true := decide_eq_true (by lia)
        rw [needD_r (a := .none) hb' (by rw [badR_list, if_pos hl])]
        exact fnX_run (ps := ["plots", "rows"]) (r := .exc BR .none) rfl (xseq (xof_call (vs := [V.fix (.list ps) .s]) (by kernel_rfl) (y := .inl .none) ep) (xexc (xif_yes (by simp only [tst_eq, cond_true, cond_false, e_rho_nil, e_rho, e_fint, e_flist, e_rv, e_gt, e_len_l, e_tb, String.reduceBEq, Option.bind_eq_bind, Option.bind_some, Option.map_some, if_true, if_false, Bool.false_eq_true, Bool.not_true, isTo_list, ht, hl']) (xexc (by kernel_rfl)))))
      · have hl' : decide (((xs.length : Nat) : Int) > 60) = false := decide_eq_false (by lia)
        have hbr : badR (knownP (.list ps)) (.list xs) = (rowAt (ps.map fstS) xs.length 0 xs).map fun (i : Nat) => .int i := by rw [badR_list, if_neg hl, hk]
        refine Eq.trans (fnX_run (r := ((rowAt (ps.map fstS) xs.length 0 xs).map fun (k : Nat) => OutX.exc BR (.int k)).getD (.out (.ret (.bool true)))) rfl ?_) ?_
        · refine xseq (xof_call (vs := [V.fix (.list ps) .s]) (by kernel_rfl) (y := .inl .none) ep) (xseq (xif_no (by simp only [tst_eq, cond_true, cond_false, e_rho_nil, e_rho, e_fint, e_flist, e_rv, e_gt, e_len_l, e_tb, String.reduceBEq, Option.bind_eq_bind, Option.bind_some, Option.map_some, if_false, Bool.false_eq_true, Bool.not_true, isTo_list, ht, hl']) rfl) (xseq (xof (by
            simp only [run_eq, cond_true, cond_false, e_rho_nil, e_rho, e_flist, e_rv, String.reduceBEq, Option.bind_eq_bind, Option.bind_some, compV, itemsOf]
            rw [show ps = ps.map id from (List.map_id ps).symm, comp_map id (fun x => .str (fstS x)) (fun x hx => by
              induction hf x hx with
              | none a => kernel_rfl
              | str a c => kernel_rfl), known_map]
            simp only [Option.map_some]; rfl)) (rows_x (r := .out (.ret (.bool true))) (known := ps.map fstS) (size := xs.length) xs (fun ρ => ρ "names" = some (.val ⟨.list ((ps.map fstS).map .str), .d⟩) ∧ ρ "rows" = some (.val ⟨.list xs, .s⟩)) BR (by simp only [itr_eq, e_set, cond_true, cond_false, e_rho_nil, e_rho, e_flist, e_rv, String.reduceBEq, Option.bind_some, Option.map_some, listOfD]) hr ⟨by simp only [e_set, cond_true, cond_false, e_rho_nil, e_rho, e_flist, String.reduceBEq], by simp only [e_set, cond_true, cond_false, e_rho_nil, e_rho, e_flist, String.reduceBEq]⟩ (by
              rintro i x ρ hx ⟨r1, r2⟩
              refine ⟨_, by simp only [e_fint, e_putRd, e_putn, e_putc, Option.bind_some, List.map_cons, List.map_nil, tup_fix, put_fix]; rfl, ?_⟩
              have er := e_r x (ps.map fstS) xs.length hx
              cases hb : rowB (ps.map fstS) xs.length x with
              | false => exact .inl ⟨rfl, xexc (xif_yes (by simp only [tst_eq, e_set, cond_true, cond_false, e_rv, e_len_l, e_tb, String.reduceBEq, Option.bind_eq_bind, Option.bind_some, Option.map_some, List.map_cons, List.map_nil, Bool.not_false, fix_x, r1, r2, er, hb]) (xexc (by kernel_rfl)))⟩
              | true => exact .inr ⟨rfl, _, xseq (xif_no (by simp only [tst_eq, e_set, cond_true, cond_false, e_rv, e_len_l, e_tb, String.reduceBEq, Option.bind_eq_bind, Option.bind_some, Option.map_some, List.map_cons, List.map_nil, Bool.not_true, fix_x, r1, r2, er, hb]) rfl) rfl, by simp only [e_set, cond_false, String.reduceBEq, r1], by simp only [e_set, cond_false, String.reduceBEq, r2]⟩) (fun ρ' _ => xret (xof (by simp only [run_eq, e_ret, Option.bind_some]))))))
        · cases hq : rowAt (ps.map fstS) xs.length 0 xs with
          | none => rw [needD_f hb' (by rw [hbr, hq]; rfl)]; rfl
          | some k => rw [needD_r (a := .int k) hb' (by rw [hbr, hq]; rfl)]; rfl
end

section
open PySem PySem.Calls PySem.W
variable {w : World} {hb : Heap}
structure ErrEnv (hb : Heap) (K : Frag) (BP BR PE : Addr) : Prop where
  X : K.In hb
  gP : GName hb "BadPlots" (.ref BP)
  gR : GName hb "BadRows" (.ref BR)
  gE : GName hb "PlotError" (.ref PE)
  cP : ClsE hb BP (.ref PE :: veMro)
  cR : ClsE hb BR (.ref PE :: veMro)
  cE : ClsE hb PE veMro
  kP : ClsK K BP PE
  kR : ClsK K BR PE
  eP : ErrK K BP
  eR : ErrK K BR
  sP : subIn K (.ref BP) (.ref BP) = some true
  sR : subIn K (.ref BR) (.ref BP) = some false
  vP : subIn K (.ref BP) (.type "ValueError") = some true
  vR : subIn K (.ref BR) (.type "ValueError") = some true
  tB : typeIn K (.ref BP) = some (.type "type")
  ne : BP ≠ BR
  neE : PE ≠ BP
noncomputable def pick2 (a b : Addr) (u v : Option Bool) (c : Addr) : Option Bool := if c = a then u else if c = b then v else none
theorem pick2_1 {a b : Addr} {u v : Option Bool} : pick2 a b u v a = u := if_pos rfl
theorem pick2_2 {a b : Addr} {u v : Option Bool} (h : a ≠ b) : pick2 a b u v b = v := by unfold pick2; rw [if_neg (Ne.symm h), if_pos rfl]
theorem pick2_some {a b c : Addr} {u v : Option Bool} {x : Bool} (h : pick2 a b u v c = some x) : (c = a ∧ u = some x) ∨ (c = b ∧ v = some x) := by
  unfold pick2 at h
  split at h
  · rename_i e; exact .inl ⟨e, h⟩
  · split at h
    · rename_i e; exact .inr ⟨e, h⟩
    · exact no h
noncomputable def saidD (p r : PyData) : PyData := match badP p with
  | some a => .tuple [.str (Str.ofString "plots"), a]
  | none => match badR (knownP p) r with
    | some a => .tuple [.str (Str.ofString "rows"), a]
    | none => .tuple [.str (Str.ofString "fine"), .bool true]
theorem said_ok {K : Frag} {BP BR PE : Addr} (V : ErrEnv hb K BP BR PE) (B : Bui hb) (gV : GName hb "ValueError" (.type "ValueError")) (D : DefAt hb "_law_said" (fnS pw 32) ["_law_kind", "_law_plots_here", "_law_rows"] (fnB pw 32)) {m_n : List PyData → Option (PyData ⊕ Addr × PyData)} (h_need : DefX pw w hb 5 "need" m_n) (e_n : ∀ p r : PyData, dn p = true → dn r = true → m_n [p, r] = some (needD BP BR p r)) :
    ∃ m, DefS pw w hb 7 "_law_said" m ∧ ∀ (k : Int) (p r : PyData), dn p = true → dn r = true → m [.int k, p, r] = some (saidD p r) := by
  have inP : ∀ S, S = BP → ∀ c b, pick2 BP BR (some true) (some false) c = some b → ∃ bm, ClsE hb c bm ∧ (Value.ref c :: bm).contains (.ref S) = b := by
    rintro S rfl c b h
    rcases pick2_some h with ⟨rfl, q⟩ | ⟨rfl, q⟩
    · exact ⟨_, V.cP, by rw [← Option.some.inj q]; simp⟩
    · refine ⟨_, V.cR, ?_⟩
      rw [← Option.some.inj q]
      have h1 : ¬ S = c := V.ne
      have h2 : ¬ S = PE := Ne.symm V.neE
      simp [veMro, h1, h2]
  have inR : ∀ c b, pick2 BR BR (some true) none c = some b → ∃ bm, ClsE hb c bm ∧ (Value.ref c :: bm).contains (.ref BR) = b := by
    rintro c b h
    rcases pick2_some h with ⟨rfl, q⟩ | ⟨rfl, q⟩
    · exact ⟨_, V.cR, by rw [← Option.some.inj q]; simp⟩
    · exact no q
  have inE : ∀ c b, pick2 BP BR (some true) (some true) c = some b → ∃ bm, ClsE hb c bm ∧ (Value.ref c :: bm).contains (.ref PE) = b := by
    rintro c b h
    rcases pick2_some h with ⟨rfl, q⟩ | ⟨rfl, q⟩
    · exact ⟨_, V.cP, by rw [← Option.some.inj q]; simp⟩
    · exact ⟨_, V.cR, by rw [← Option.some.inj q]; simp⟩
  have isP : ∀ D b, pick2 BP BR (some true) (some false) D = some b → ErrK K D ∧ subIn K (.ref D) (.ref BP) = some b ∧ (D = BP → b = true) := by
    rintro c b h
    rcases pick2_some h with ⟨rfl, q⟩ | ⟨rfl, q⟩
    · rw [← Option.some.inj q]; exact ⟨V.eP, V.sP, fun _ => rfl⟩
    · rw [← Option.some.inj q]; exact ⟨V.eR, V.sR, fun z => absurd z.symm V.ne⟩
  have hbase : (Value.ref PE :: veMro).contains (.type "BaseException") = true := by simp [veMro]
  refine ⟨_, DefS.of D (n := 6) (by decide) (StS.if (Tr.cmp Ev.v Ev.cint) (S1S.try (by decide +kernel) h_need (Evs.cons Ev.v (Evs.cons Ev.v Evs.nil)) (by decide +kernel) (by decide) (by decide +kernel) (by intro _; rfl)
      (Hd.cons (pick2 BP BR (some true) (some false)) (by decide +kernel) V.gP V.cP hbase (inP BP rfl) (ErS.ret (Er.pair (Er.str (by decide +kernel)) (Er.at (P := PE) V.X (by intro _; with_unfolding_all rfl)) (by intro _; rfl) (by intro _; rfl)))
        (Hd.cons (pick2 BR BR (some true) none) (by decide +kernel) V.gR V.cR hbase inR (ErS.ret (Er.pair (Er.str (by decide +kernel)) (Er.at (P := PE) V.X (by intro _; with_unfolding_all rfl)) (by intro _; rfl) (by intro _; rfl))) Hd.nil)))
    (StS.last (S1S.try (by decide +kernel) h_need (Evs.cons Ev.v (Evs.cons Ev.v Evs.nil)) (by decide +kernel) (by decide) (by decide +kernel) (by intro _; rfl)
      (Hd.cons (pick2 BP BR (some true) (some true)) (by decide +kernel) V.gE V.cE (by decide +kernel) inE
        (ErS.ifNot (Er.isT V.X (by decide +kernel) B.isinstance (by decide +kernel) gV (by kernel_rfl) (by intro _; rfl)) (by intro _ _; rfl)
          (ErS.ret (Er.pair (Er.pick (by decide +kernel) (by decide +kernel) (Er.int (by decide +kernel) B.int (Er.isC V.X (by decide +kernel) B.isinstance (by decide +kernel) V.gP V.eP.cl V.tB isP (by intro _; rfl)) (by intro _; rfl) (by intro _; rfl)) (by intro _ _; exact ⟨_, rfl⟩)) (Er.at (P := PE) V.X (by intro _; with_unfolding_all rfl)) (by intro _; rfl) (by intro _; rfl)))) Hd.nil)))), ?_⟩
  intro k p r hp hr
  have en := e_n p r hp hr
  rw [if_pos (show [PyData.int k, p, r].length = ["_law_kind", "_law_plots_here", "_law_rows"].length from rfl)]
  cases hb' : badP p with
  | some a =>
    rw [needD_p hb'] at en
    rw [show saidD p r = .tuple [.str (Str.ofString "plots"), a] by unfold saidD; rw [hb']]
    cases hk : (k == 0) with
    | true => simp only [cond_true, cond_false, e_rho_nil, e_rho, e_fint, e_rv, e_eqi, String.reduceBEq, Option.bind_eq_bind, Option.bind_some, Option.map_some, List.map_cons, List.map_nil, hk, fix_x, en, tryOut, pick2_1, if_pos (show ClsK K BP PE ∧ ErrK K BP from ⟨V.kP, V.eP⟩)]
    | false => simp only [cond_true, cond_false, e_rho_nil, e_rho, e_fint, e_rv, e_eqi, String.reduceBEq, e_idx_l, Option.bind_eq_bind, Option.bind_some, Option.map_some, if_true, List.map_cons, List.map_nil, hk, fix_x, en, tryOut, pick2_1, if_pos (show ClsK K BP PE ∧ ErrK K BP from ⟨V.kP, V.eP⟩), if_pos (show ErrK K BP ∧ subIn K (.ref BP) (.type "ValueError") = some true from ⟨V.eP, V.vP⟩), boolInt]; rfl
  | none =>
    cases hr' : badR (knownP p) r with
    | some a =>
      rw [needD_r hb' hr'] at en
      rw [show saidD p r = .tuple [.str (Str.ofString "rows"), a] by unfold saidD; rw [hb']; dsimp only; rw [hr']]
      cases hk : (k == 0) with
      | true => simp only [cond_true, cond_false, e_rho_nil, e_rho, e_fint, e_rv, e_eqi, String.reduceBEq, Option.bind_eq_bind, Option.bind_some, Option.map_some, List.map_cons, List.map_nil, hk, fix_x, en, tryOut, pick2_1, pick2_2 V.ne, if_pos (show ClsK K BR PE ∧ ErrK K BR from ⟨V.kR, V.eR⟩)]
      | false => simp only [cond_true, cond_false, e_rho_nil, e_rho, e_fint, e_rv, e_eqi, String.reduceBEq, e_idx_l, Option.bind_eq_bind, Option.bind_some, Option.map_some, if_false, Bool.false_eq_true, List.map_cons, List.map_nil, hk, fix_x, en, tryOut, pick2_1, pick2_2 V.ne, if_pos (show ClsK K BR PE ∧ ErrK K BR from ⟨V.kR, V.eR⟩), if_pos (show ErrK K BR ∧ subIn K (.ref BR) (.type "ValueError") = some true from ⟨V.eR, V.vR⟩), boolInt]; rfl
    | none =>
      rw [needD_f hb' hr'] at en
      rw [show saidD p r = .tuple [.str (Str.ofString "fine"), .bool true] by unfold saidD; rw [hb']; dsimp only; rw [hr']]
      cases hk : (k == 0) with
      | true => simp only [cond_true, cond_false, e_rho_nil, e_rho, e_fint, e_rv, e_eqi, String.reduceBEq, Option.bind_eq_bind, Option.bind_some, if_true, List.map_cons, List.map_nil, hk, fix_x, en, tryOut, flat]
      | false => simp only [cond_true, cond_false, e_rho_nil, e_rho, e_fint, e_rv, e_eqi, String.reduceBEq, Option.bind_eq_bind, Option.bind_some, if_true, List.map_cons, List.map_nil, hk, fix_x, en, tryOut, flat]
end

section
variable {w : World} {hb : Heap}
noncomputable def okB (x : PyData) : Bool := dn x && decide (x.depth ≤ 5)
theorem sign_ok (B : Bui hb) (D : DefAt hb "_law_sign" (fnS pw 28) ["_law_cell"] (fnB pw 28)) : ∃ m, DefG pw w hb 2 "_law_sign" m ∧ ∀ c : Int, ∃ k : Nat, m [.int c] = some (.str ⟨#[k]⟩) := by
  refine ⟨_, DefG.of D (n := 1) (St.cons (S1.assign Ev.s (by decide +kernel))
    (St.cons (S1.ret (Ev.idx Ev.v (Ev.bin Ev.v (Ev.len B (Evs.cons Ev.v Evs.nil) (by decide +kernel) (by intro _; rfl)))))
    St.nil)) _ (fun _ _ h => h), ?_⟩
  intro c
  generalize hs : Str.ofString " !\"#$&'()*+,-./0123456789:;<=>?@ABCDEFGHIJKLMNOPQRSTUVWXYZ[\\]^_`{|}~\n\t" = s
  have hl : s.length = s.cps.toList.length := by show s.cps.size = _; simp
  have hp : 0 < s.cps.toList.length := by rw [← hs]; decide +kernel
  have h1 := Int.emod_nonneg c (show ((s.length : Nat) : Int) ≠ 0 by lia)
  have h2 := Int.emod_lt_of_pos c (show 0 < ((s.length : Nat) : Int) by lia)
  refine ⟨s.cps.toList[(c % ((s.length : Nat) : Int)).toNat]'(by lia), ?_⟩
  refine fn_ret rfl ?_
  refine seq (by simp only [run_eq, e_putd, Option.bind_some]; rfl) (seqRet ?_)
  have hx : aIdx (.str s) (.int (c % ((s.length : Nat) : Int))) = some (.str ⟨#[s.cps.toList[(c % ((s.length : Nat) : Int)).toNat]'(by lia)]⟩) := by
    show (seqAt s.cps.toList _).map _ = _
    rw [seqAt_nat h1, List.getElem?_eq_getElem (show (c % ((s.length : Nat) : Int)).toNat < s.cps.toList.length by lia)]; rfl
  simp only [run_eq, e_set, cond_true, cond_false, e_rho_nil, e_rho, e_fint, e_rv, e_ret, e_len_s, fix_d, String.reduceBEq, Option.bind_eq_bind, Option.bind_some, Option.map_some, e_mod (show 0 < ((s.length : Nat) : Int) by lia), hx]
noncomputable abbrev tN (a : Str) (b : PyData) : PyData := .tuple [.str a, b]
noncomputable abbrev sT (a : String) : PyData := .str (Str.ofString a)
noncomputable def things1 (n f l : Str) : List PyData := [tN n .none, tN n (.str f), tN n (.str l), tN n (.str n), tN l .none, .tuple [sT "q", sT "zz"], .tuple [sT "", .none]]
noncomputable def things2 : List PyData := [.tuple [sT "aB", .none], .tuple [sT "abcdefghi", .none], .tuple [sT "abcdefgh", .none], .list [sT "q", .none], .tuple [sT "q"], .tuple [.int 5, .none], .none]
noncomputable def things3 (s : Str) : List PyData := [.tuple [sT "q", .int 0], .tuple [sT "q", sT ""], .tuple [sT "a1", .none], tN (Str.ofString "a" ++ s ++ Str.ofString "b") .none, tN s .none, .tuple [.list [sT "q"], .none]]
noncomputable def thingsD (n f l s : Str) : List PyData := things1 n f l ++ things2 ++ things3 s ++ [.tuple [sT "q", .list [.str n]]]
theorem things_ok (n f l s : Str) : (thingsD n f l s).all okB = true := by kernel_rfl
theorem pair_ok (B : Bui hb) (D : DefAt hb "_law_pair" (fnS pw 29) ["_law_cell", "_law_plots_here", "_law_at_here"] (fnB pw 29)) {m_s : List PyData → Option PyData} (h_law_sign : DefG pw w hb 2 "_law_sign" m_s) (e_s : ∀ c : Int, ∃ k : Nat, m_s [.int c] = some (.str ⟨#[k]⟩)) :
    ∃ m, DefG pw w hb 3 "_law_pair" m ∧ ∀ (c : Int) (ps : List (List Nat × Option (List Nat))) (i : Nat), i < ps.length → ∃ x, m [.int c, .list (ps.map plotP), .int i] = some x ∧ okB x = true := by
  refine ⟨_, DefG.of D (n := 2) (St.cons (S1.assign (Ev.idx (Ev.idx Ev.v Ev.v) Ev.cint) (by decide +kernel))
    (St.cons (S1.assign (Ev.idx (Ev.idx Ev.v Ev.cint) Ev.cint) (by decide +kernel))
    (St.cons (S1.assign (Ev.idx (Ev.idx Ev.v (Ev.neg Ev.cint)) Ev.cint) (by decide +kernel))
    (St.cons (S1.ownList (Evs.cons (Ev.tuple (Evs.cons Ev.v (Evs.cons Ev.cnone Evs.nil))) (Evs.cons (Ev.tuple (Evs.cons Ev.v (Evs.cons Ev.v Evs.nil))) (Evs.cons (Ev.tuple (Evs.cons Ev.v (Evs.cons Ev.v Evs.nil))) (Evs.cons (Ev.tuple (Evs.cons Ev.v (Evs.cons Ev.v Evs.nil))) (Evs.cons (Ev.tuple (Evs.cons Ev.v (Evs.cons Ev.cnone Evs.nil))) (Evs.cons (Ev.tuple (Evs.cons Ev.s (Evs.cons Ev.s Evs.nil))) (Evs.cons (Ev.tuple (Evs.cons Ev.s (Evs.cons Ev.cnone Evs.nil))) Evs.nil))))))) (by decide +kernel))
    (St.cons (S1.extend (Ev.list (Evs.cons (Ev.tuple (Evs.cons Ev.s (Evs.cons Ev.cnone Evs.nil))) (Evs.cons (Ev.tuple (Evs.cons Ev.s (Evs.cons Ev.cnone Evs.nil))) (Evs.cons (Ev.tuple (Evs.cons Ev.s (Evs.cons Ev.cnone Evs.nil))) (Evs.cons (Ev.list (Evs.cons Ev.s (Evs.cons Ev.cnone Evs.nil))) (Evs.cons (Ev.tuple (Evs.cons Ev.s Evs.nil)) (Evs.cons (Ev.tuple (Evs.cons Ev.cint (Evs.cons Ev.cnone Evs.nil))) (Evs.cons Ev.cnone Evs.nil)))))))) (by decide +kernel) (by intro _; rfl) (by rfl) (by intro env h; unfold interactive; rw [h]; rfl))
    (St.cons (S1.assign (Ev.def h_law_sign (Evs.cons (Ev.bin Ev.v Ev.cint) Evs.nil) (by decide +kernel) (by decide) (by intro _; rfl)) (by decide +kernel))
    (St.cons (S1.extend (Ev.list (Evs.cons (Ev.tuple (Evs.cons Ev.s (Evs.cons Ev.cint Evs.nil))) (Evs.cons (Ev.tuple (Evs.cons Ev.s (Evs.cons Ev.s Evs.nil))) (Evs.cons (Ev.tuple (Evs.cons Ev.s (Evs.cons Ev.cnone Evs.nil))) (Evs.cons (Ev.tuple (Evs.cons (Ev.bin (Ev.bin Ev.s Ev.v) Ev.s) (Evs.cons Ev.cnone Evs.nil))) (Evs.cons (Ev.tuple (Evs.cons Ev.v (Evs.cons Ev.cnone Evs.nil))) (Evs.cons (Ev.tuple (Evs.cons (Ev.list (Evs.cons Ev.s Evs.nil)) (Evs.cons Ev.cnone Evs.nil))) Evs.nil))))))) (by decide +kernel) (by intro _; rfl) (by rfl) (by intro env h; unfold interactive; rw [h]; rfl))
    (St.cons (S1.append (Ev.tuple (Evs.cons Ev.s (Evs.cons (Ev.list (Evs.cons Ev.v Evs.nil)) Evs.nil))) (by decide +kernel) (by intro _; rfl) (by rfl) (by intro env h; unfold interactive; rw [h]; rfl))
    (St.cons (S1.ret (Ev.idxOwn (Ev.bin Ev.v Ev.cint) (by decide +kernel) (by intro _ _; exact ⟨_, rfl⟩)))
    St.nil))))))))) _ (fun _ _ h => h), ?_⟩
  intro c ps i hi
  obtain ⟨k, es⟩ := e_s (c / 21)
  have hj1 : 0 ≤ c % 21 := by lia
  have hj2 : (c % 21).toNat < 21 := by lia
  have h1 : seqAt (ps.map plotP) i = some (plotP (ps[i])) := by rw [seqAt_nat (by lia), List.getElem?_map, Int.toNat_natCast, List.getElem?_eq_getElem hi]; rfl
  have h2 : seqAt (ps.map plotP) 0 = some (plotP (ps[0]'(by lia))) := by rw [seqAt_nat (by decide), List.getElem?_map]; show Option.map plotP ps[0]? = _; rw [List.getElem?_eq_getElem (by lia)]; rfl
  have h3 : seqAt (ps.map plotP) (-1) = some (plotP (ps[ps.length - 1]'(by lia))) := by
    unfold seqAt
    rw [if_neg (by decide), if_pos (by simp only [List.length_map]; lia), List.length_map, List.getElem?_map, show (-1 + (ps.length : Int)).toNat = ps.length - 1 by lia, List.getElem?_eq_getElem (by lia)]; rfl
  generalize ps[i] = p1 at h1
  generalize ps[0]'_ = p2 at h2
  generalize ps[ps.length - 1]'_ = p3 at h3
  have hL : (thingsD (S p1.1) (S p2.1) (S p3.1) ⟨#[k]⟩).length = 21 := rfl
  refine ⟨(thingsD (S p1.1) (S p2.1) (S p3.1) ⟨#[k]⟩)[(c % 21).toNat]'(by rw [hL]; exact hj2), fn_ret rfl ?_, List.all_eq_true.mp (things_ok _ _ _ _) _ (List.getElem_mem _)⟩
  refine seq (by simp only [run_eq, cond_true, cond_false, e_rho_nil, e_rho, e_fint, e_flist, e_ftup, e_rv, e_putd, fix_d, fl_nil, fl_str, String.reduceBEq, e_idx_l, e_idx_t, Option.bind_eq_bind, Option.bind_some, h1, plotP, fl_opt, at_0]; rfl) ?_
  refine seq (by simp only [run_eq, e_set, cond_true, cond_false, e_rho_nil, e_rho, e_fint, e_flist, e_ftup, e_rv, e_putd, fix_d, fl_nil, fl_str, String.reduceBEq, e_idx_l, e_idx_t, Option.bind_eq_bind, Option.bind_some, h2, plotP, fl_opt, at_0]; rfl) ?_
  refine seq (by simp only [run_eq, e_set, cond_true, cond_false, e_rho_nil, e_rho, e_fint, e_flist, e_ftup, e_rv, e_putd, fix_d, fl_nil, fl_str, String.reduceBEq, e_idx_l, e_idx_t, Option.bind_eq_bind, Option.bind_some, Int.reduceNeg, h3, plotP, fl_opt, at_0]; rfl) ?_
  refine seqOwn "_law_things" (.lst (things1 (S p1.1) (S p2.1) (S p3.1))) (by kernel_rfl) ?_
  refine seqOwn "_law_things" (.lst (things1 (S p1.1) (S p2.1) (S p3.1) ++ things2)) (by kernel_rfl) ?_
  refine seq (by simp only [run_eq, e_div, e_set, cond_true, cond_false, e_rho_nil, e_rho, e_fint, e_flist, e_rv, e_putd, String.reduceBEq, Option.bind_eq_bind, Option.bind_some, Option.map_some, List.map_cons, List.map_nil, Int.reduceLT, es]; rfl) ?_
  refine seqOwn "_law_things" (.lst (things1 (S p1.1) (S p2.1) (S p3.1) ++ things2 ++ things3 ⟨#[k]⟩)) (by kernel_rfl) ?_
  refine seqOwn "_law_things" (.lst (thingsD (S p1.1) (S p2.1) (S p3.1) ⟨#[k]⟩)) (by kernel_rfl) (seqRet ?_)
  generalize hT : thingsD (S p1.1) (S p2.1) (S p3.1) ⟨#[k]⟩ = T at hL
  simp only [run_eq, e_mod, e_set, cond_true, cond_false, e_rho_nil, e_rho, e_fint, e_flist, e_rv, e_ret, String.reduceBEq, Option.bind_eq_bind, Option.bind_some, Option.map_some, if_true, Int.reduceLT, intOf, hj1, List.getElem?_eq_getElem (show (c % 21).toNat < T.length by rw [hL]; exact hj2)]
inductive Row where
  | op (p : List Nat)
  | lay (n p : List Nat) (i : Int)
  | copy (n o p : List Nat)
  | same (n o : List Nat)
  | add (n o : List Nat)
  | tell (n : List Nat)
  | give (p : List Nat)
  | fork (k : Int)
  | go (k : Int)
  | fin
noncomputable def Row.parts : Row → String × List PyData
  | .op p => ("open", [strP p])
  | .lay n p i => ("lay", [strP n, strP p, .int i])
  | .copy n o p => ("copy", [strP n, strP o, strP p])
  | .same n o => ("same", [strP n, strP o])
  | .add n o => ("add", [strP n, strP o])
  | .tell n => ("tell", [strP n])
  | .give p => ("give", [strP p])
  | .fork k => ("fork", [.int k])
  | .go k => ("go", [.int k])
  | .fin => ("end", [])
noncomputable def rowP (r : Row) : PyData := .tuple (.str (Str.ofString r.parts.1) :: r.parts.2)
noncomputable def moreS (c : Int) : Int := (c / 10 * 48271 + 11) % 1000003
noncomputable def numS (c : Int) : Int := if moreS c % 4 = 1 then c / 10 % 2000000000000000001 - 1000000000000000000 else c / 10 % 19 - 9
noncomputable def pickN (ns : List (List Nat)) (i : Int) : List Nat := (ns[(i % ns.length).toNat]?).getD []
noncomputable def pickP (ps : List (List Nat × Option (List Nat))) (i : Int) : List Nat := ((ps[(i % ps.length).toNat]?).getD ([], none)).1
noncomputable def rowK (k : Nat) (nm ot pl : List Nat) (num at' : Int) : Row :=
  match k with
  | 0 => .op pl
  | 1 => .lay nm pl num
  | 2 => .copy nm ot pl
  | 3 => .same nm ot
  | 4 => .add nm ot
  | 5 => .tell nm
  | 6 => .give pl
  | 7 => .fork at'
  | 8 => .go at'
  | _ => .fin
noncomputable def rowS (c : Int) (ps : List (List Nat × Option (List Nat))) (ns : List (List Nat)) (size : Int) : Row :=
  rowK (c % 10).toNat (pickN ns (moreS c)) (pickN ns (moreS c / 7)) (pickP ps (moreS c / 61)) (numS c) (moreS c / 1013 % (size + 1))
theorem pickN_at {ns : List (List Nat)} (h : 0 < ns.length) (i : Int) : seqAt (ns.map strP) (i % ns.length) = some (strP (pickN ns i)) := by
  have h1 := Int.emod_nonneg i (show (ns.length : Int) ≠ 0 by lia)
  have h2 := Int.emod_lt_of_pos i (show 0 < (ns.length : Int) by lia)
  rw [seqAt_nat h1, List.getElem?_map]
  unfold pickN
  rw [List.getElem?_eq_getElem (by lia)]; rfl
theorem pickP_at {ps : List (List Nat × Option (List Nat))} (h : 0 < ps.length) (i : Int) : ∃ o, seqAt (ps.map plotP) (i % ps.length) = some (plotP (pickP ps i, o)) := by
  have h1 := Int.emod_nonneg i (show (ps.length : Int) ≠ 0 by lia)
  have h2 := Int.emod_lt_of_pos i (show 0 < (ps.length : Int) by lia)
  refine ⟨((ps[(i % ps.length).toNat]?).getD ([], none)).2, ?_⟩
  rw [seqAt_nat h1, List.getElem?_map]
  unfold pickP
  rw [List.getElem?_eq_getElem (by lia)]; rfl
theorem ten {P : Nat → Prop} (h0 : P 0) (h1 : P 1) (h2 : P 2) (h3 : P 3) (h4 : P 4) (h5 : P 5) (h6 : P 6) (h7 : P 7) (h8 : P 8) (h9 : P 9) : ∀ k, k < 10 → P k := by
  intro k hk
  rcases k with _ | _ | _ | _ | _ | _ | _ | _ | _ | _ | k
  · exact h0
  · exact h1
  · exact h2
  · exact h3
  · exact h4
  · exact h5
  · exact h6
  · exact h7
  · exact h8
  · exact h9
  · exact absurd hk (Nat.not_lt.mpr (Nat.le_add_left 10 k))
theorem row_ok (B : Bui hb) (D : DefAt hb "_law_row" (fnS pw 22) ["_law_cell", "_law_plots_here", "_law_names_here", "_law_size"] (fnB pw 22)) :
    ∃ m, DefG pw w hb 2 "_law_row" m ∧ ∀ (c : Int) (ps : List (List Nat × Option (List Nat))) (ns : List (List Nat)) (size : Int), 0 < ps.length → 0 < ns.length → 0 ≤ size →
      m [.int c, .list (ps.map plotP), .list (ns.map strP), .int size] = some (rowP (rowS c ps ns size)) := by
  refine ⟨_, DefG.of D (n := 1) (St.cons (S1.assign (Ev.bin (Ev.bin (Ev.bin (Ev.bin Ev.v Ev.cint) Ev.cint) Ev.cint) Ev.cint) (by decide +kernel))
    (St.cons (S1.assign (Ev.idx Ev.v (Ev.bin Ev.v (Ev.len B (Evs.cons Ev.v Evs.nil) (by decide +kernel) (by intro _; rfl)))) (by decide +kernel))
    (St.cons (S1.assign (Ev.idx Ev.v (Ev.bin (Ev.bin Ev.v Ev.cint) (Ev.len B (Evs.cons Ev.v Evs.nil) (by decide +kernel) (by intro _; rfl)))) (by decide +kernel))
    (St.cons (S1.assign (Ev.idx (Ev.idx Ev.v (Ev.bin (Ev.bin Ev.v Ev.cint) (Ev.len B (Evs.cons Ev.v Evs.nil) (by decide +kernel) (by intro _; rfl)))) Ev.cint) (by decide +kernel))
    (St.cons (S1.assign (Ev.bin (Ev.bin (Ev.bin Ev.v Ev.cint) Ev.cint) Ev.cint) (by decide +kernel))
    (St.cons (S1.if (Tr.cmp (Ev.bin Ev.v Ev.cint) Ev.cint) (St.cons (S1.assign (Ev.bin (Ev.bin (Ev.bin Ev.v Ev.cint) Ev.cint) Ev.cint) (by decide +kernel))
      St.nil) St.nil)
    (St.cons (S1.assign (Ev.bin (Ev.bin Ev.v Ev.cint) (Ev.bin Ev.v Ev.cint)) (by decide +kernel))
    (St.cons (S1.assign (Ev.bin Ev.v Ev.cint) (by decide +kernel))
    (St.cons (S1.if (Tr.cmp Ev.v Ev.cint) (St.cons (S1.ret (Ev.idx (Ev.list (Evs.cons (Ev.tuple (Evs.cons Ev.s (Evs.cons Ev.v Evs.nil))) (Evs.cons (Ev.tuple (Evs.cons Ev.s (Evs.cons Ev.v (Evs.cons Ev.v (Evs.cons Ev.v Evs.nil))))) Evs.nil))) Ev.v))
      St.nil) St.nil)
    (St.cons (S1.if (Tr.cmp Ev.v Ev.cint) (St.cons (S1.ret (Ev.idx (Ev.list (Evs.cons (Ev.tuple (Evs.cons Ev.s (Evs.cons Ev.v (Evs.cons Ev.v (Evs.cons Ev.v Evs.nil))))) (Evs.cons (Ev.tuple (Evs.cons Ev.s (Evs.cons Ev.v (Evs.cons Ev.v Evs.nil)))) (Evs.cons (Ev.tuple (Evs.cons Ev.s (Evs.cons Ev.v (Evs.cons Ev.v Evs.nil)))) (Evs.cons (Ev.tuple (Evs.cons Ev.s (Evs.cons Ev.v Evs.nil))) Evs.nil))))) (Ev.bin Ev.v Ev.cint)))
      St.nil) St.nil)
    (St.cons (S1.ret (Ev.idx (Ev.list (Evs.cons (Ev.tuple (Evs.cons Ev.s (Evs.cons Ev.v Evs.nil))) (Evs.cons (Ev.tuple (Evs.cons Ev.s (Evs.cons Ev.v Evs.nil))) (Evs.cons (Ev.tuple (Evs.cons Ev.s (Evs.cons Ev.v Evs.nil))) (Evs.cons (Ev.tuple (Evs.cons Ev.s Evs.nil)) Evs.nil))))) (Ev.bin Ev.v Ev.cint)))
    St.nil))))))))))) _ (fun _ _ h => h), ?_⟩
  intro c ps ns size hp hn hz
  have hp' : (0 : Int) < (ps.length : Nat) := by lia
  have hn' : (0 : Int) < (ns.length : Nat) := by lia
  have hz' : 0 < size + 1 := by lia
  have n1 := pickN_at hn (moreS c)
  have n2 := pickN_at hn (moreS c / 7)
  obtain ⟨o, p1⟩ := pickP_at hp (moreS c / 61)
  have p2 : seqAt [PyData.str (S (pickP ps (moreS c / 61))), optP o] 0 = some (strP (pickP ps (moreS c / 61))) := rfl
  refine fn_ret rfl ?_
  refine seq (by simp only [run_eq, e_add, e_mul_r, e_div, e_mod, cond_true, cond_false, e_rho_nil, e_rho, e_fint, e_flist, e_rv, e_putd, String.reduceBEq, Option.bind_eq_bind, Option.bind_some, Int.reduceLT, Int.reduceNeg, show (c / 10 * 48271 + 11) % 1000003 = moreS c from rfl]; rfl) ?_
  refine seq (by simp only [run_eq, e_set, cond_true, cond_false, e_rho_nil, e_rho, e_fint, e_fstr, e_flist, e_rv, e_putd, e_len_l, String.reduceBEq, e_idx_l, Option.bind_eq_bind, Option.bind_some, Option.map_some, List.length_map, e_mod hn', n1]; rfl) ?_
  refine seq (by simp only [run_eq, e_div, e_set, cond_true, cond_false, e_rho_nil, e_rho, e_fint, e_fstr, e_flist, e_rv, e_putd, e_len_l, String.reduceBEq, e_idx_l, Option.bind_eq_bind, Option.bind_some, Option.map_some, Int.reduceLT, List.length_map, e_mod hn', n2]; rfl) ?_
  refine seq (by simp only [run_eq, e_div, e_set, cond_true, cond_false, e_rho_nil, e_rho, e_fint, e_flist, e_ftup, e_rv, e_putd, e_len_l, fix_d, fl_nil, fl_str, String.reduceBEq, e_idx_l, e_idx_t, Option.bind_eq_bind, Option.bind_some, Option.map_some, Int.reduceLT, List.length_map, e_mod hp', p1, plotP, fl_opt, p2]; rfl) ?_
  refine seq (by simp only [run_eq, e_sub, e_div, e_mod, e_set, cond_true, cond_false, e_rho_nil, e_rho, e_fint, e_flist, e_rv, e_putd, String.reduceBEq, Option.bind_eq_bind, Option.bind_some, Int.reduceLT]; rfl) ?_
  refine seqE (fun ρ => ρ "_law_number" = some (.val ⟨.int (numS c), .d⟩) ∧ ρ "_law_name_here" = some (.val ⟨strP (pickN ns (moreS c)), .d⟩) ∧ ρ "_law_other" = some (.val ⟨strP (pickN ns (moreS c / 7)), .d⟩) ∧ ρ "_law_plot" = some (.val ⟨strP (pickP ps (moreS c / 61)), .d⟩) ∧
    ρ "_law_more" = some (.val ⟨.int (moreS c), .d⟩) ∧ ρ "_law_cell" = some (.val ⟨.int c, .d⟩) ∧ ρ "_law_size" = some (.val ⟨.int size, .d⟩)) ?_ ?_
  · by_cases h0 : moreS c % 4 = 1
    · have hv : numS c = c / 10 % 2000000000000000001 - 1000000000000000000 := if_pos h0
      exact ⟨_, by simp only [run_eq, e_sub, e_div, e_mod, e_set, cond_true, cond_false, e_rho_nil, e_rho, e_fint, e_flist, e_rv, e_putd, e_thn, e_eqi, String.reduceBEq, Option.bind_eq_bind, Option.bind_some, if_true, Int.reduceLT, Int.reduceBEq, h0]; rfl, by simp only [e_set, cond_true, cond_false, e_rho_nil, e_rho, e_fint, e_flist, String.reduceBEq, hv], by simp only [e_set, cond_true, cond_false, e_rho_nil, e_rho, e_fint, e_flist, String.reduceBEq], by simp only [e_set, cond_true, cond_false, e_rho_nil, e_rho, e_fint, e_flist, String.reduceBEq], by simp only [e_set, cond_true, cond_false, e_rho_nil, e_rho, e_fint, e_flist, String.reduceBEq], by simp only [e_set, cond_true, cond_false, e_rho_nil, e_rho, e_fint, e_flist, String.reduceBEq], by simp only [e_set, cond_true, cond_false, e_rho_nil, e_rho, e_fint, e_flist, String.reduceBEq], by simp only [e_set, cond_true, cond_false, e_rho_nil, e_rho, e_fint, e_flist, String.reduceBEq]⟩
    · have hv : numS c = c / 10 % 19 - 9 := if_neg h0
      have h0' : (moreS c % 4 == 1) = false := beq_eq_false_iff_ne.mpr h0
      exact ⟨_, by simp only [run_eq, e_sub, e_div, e_mod, e_set, cond_true, cond_false, e_rho_nil, e_rho, e_fint, e_flist, e_rv, e_putd, e_thn, e_eqi, String.reduceBEq, Option.bind_eq_bind, Option.bind_some, if_false, Bool.false_eq_true, Int.reduceLT, h0']; rfl, by simp only [e_set, cond_true, cond_false, e_rho_nil, e_rho, e_fint, e_flist, String.reduceBEq, hv], by simp only [e_set, cond_true, cond_false, e_rho_nil, e_rho, e_fint, e_flist, String.reduceBEq], by simp only [e_set, cond_true, cond_false, e_rho_nil, e_rho, e_fint, e_flist, String.reduceBEq], by simp only [e_set, cond_true, cond_false, e_rho_nil, e_rho, e_fint, e_flist, String.reduceBEq], by simp only [e_set, cond_true, cond_false, e_rho_nil, e_rho, e_fint, e_flist, String.reduceBEq], by simp only [e_set, cond_true, cond_false, e_rho_nil, e_rho, e_fint, e_flist, String.reduceBEq], by simp only [e_set, cond_true, cond_false, e_rho_nil, e_rho, e_fint, e_flist, String.reduceBEq]⟩
  rintro ρ ⟨h1, h2, h3, h4, h5, h6, h7⟩
  refine seq (by simp only [run_eq, e_add, e_div, e_rv, e_putd, Option.bind_eq_bind, Option.bind_some, Int.reduceLT, h5, h7, e_mod hz']; rfl) ?_
  refine seq (by simp only [run_eq, e_mod, e_set, cond_false, e_rv, e_putd, String.reduceBEq, Option.bind_eq_bind, Option.bind_some, Int.reduceLT, h6]; rfl) ?_
  obtain ⟨k, hk, ek⟩ : ∃ k : Nat, k < 10 ∧ c % 10 = k := ⟨(c % 10).toNat, by lia, by lia⟩
  rw [rho_know [("_law_number", .val ⟨.int (numS c), .d⟩), ("_law_name_here", .val ⟨strP (pickN ns (moreS c)), .d⟩), ("_law_other", .val ⟨strP (pickN ns (moreS c / 7)), .d⟩), ("_law_plot", .val ⟨strP (pickP ps (moreS c / 61)), .d⟩)] (know_cons h1 (know_cons h2 (know_cons h3 (know_cons h4 know_nil))))]
  have hrow : rowS c ps ns size = rowK (c % 10).toNat (pickN ns (moreS c)) (pickN ns (moreS c / 7)) (pickP ps (moreS c / 61)) (numS c) (moreS c / 1013 % (size + 1)) := rfl
  rw [hrow]
  clear hrow
  rw [ek]
  clear ek
  revert k
  refine ten ?_ ?_ ?_ ?_ ?_ ?_ ?_ ?_ ?_ ?_ <;> kernel_rfl
noncomputable abbrev gI : Int := 1000000000000000000
noncomputable def odd1 (n p : Str) : List PyData := [.tuple [sT "hop", .str n], .tuple [sT "open"], .tuple [sT "open", sT "qq"], .list [sT "tell", .str n], .tuple [sT "lay", .str n, .str p, .bool true]]
noncomputable def odd2 (n p : Str) (z : Int) : List PyData := [.tuple [sT "lay", .str n, .str p, .int (gI + 1)], .tuple [sT "lay", .str n, .str p, sT "3"], .tuple [sT "fork", .int (z + 1)]]
noncomputable def odd3 : List PyData := [.tuple [sT "go", .int (0 - 1)], .tuple [sT "fork", .bool true], .tuple [sT "end", .int 1], .tuple [], sT "end"]
noncomputable def odd4 (n : Str) : List PyData := [.tuple [sT "tell", sT "a1"], .tuple [sT "tell", sT ""], .tuple [sT "tell", sT "abcdefghi"], .tuple [sT "same", .str n], .tuple [sT "copy", .str n, .str n, sT "qq"]]
noncomputable def odd5 (n p : Str) : List PyData := [.tuple [sT "open", .none], .tuple [.none, .str p], .tuple [sT "lay", .str n, .str p, .int (0 - gI - 1)], .tuple [sT "lay", .str n, .str p, .int (0 - gI)]]
noncomputable def odd6 (n p : Str) (z : Int) : List PyData := [.tuple [sT "go", .int z], .tuple [sT "give", .list [.str p]], .tuple [sT "tell", .int 5], .tuple [sT "tell", .none], .tuple [sT "tell", .list [.str n]], .tuple [sT "fork", sT "1"]]
noncomputable def odd7 (n p s : Str) : List PyData := [.tuple [sT "go", .none], .tuple [sT "tell", .str (Str.ofString "a" ++ s ++ Str.ofString "b")], .tuple [.list [sT "tell"], .str n], .tuple [.dict [], .str p]]
noncomputable def odd8 (n p : Str) : List PyData := [.tuple [sT "lay", .str n, .str p, .none], .tuple [sT "lay", .int 5, .str p, .int 1]]
noncomputable def oddD (n p s : Str) (z : Int) : List PyData := odd1 n p ++ odd2 n p z ++ odd3 ++ odd4 n ++ odd5 n p ++ odd6 n p z ++ odd7 n p s ++ odd8 n p
theorem odd_ok (n p s : Str) (z : Int) : (oddD n p s z).all okB = true := by kernel_rfl
theorem oddrow_ok (B : Bui hb) (D : DefAt hb "_law_odd_row" (fnS pw 30) ["_law_cell", "_law_plots_here", "_law_names_here", "_law_size"] (fnB pw 30)) {m_s : List PyData → Option PyData} (h_law_sign : DefG pw w hb 2 "_law_sign" m_s) (e_s : ∀ c : Int, ∃ k : Nat, m_s [.int c] = some (.str ⟨#[k]⟩)) :
    ∃ m, DefG pw w hb 3 "_law_odd_row" m ∧ ∀ (c : Int) (ps : List (List Nat × Option (List Nat))) (ns : List (List Nat)) (z : Int), 0 < ps.length → 0 < ns.length → ∃ x, m [.int c, .list (ps.map plotP), .list (ns.map strP), .int z] = some x ∧ okB x = true := by
  refine ⟨_, DefG.of D (n := 2) (St.cons (S1.assign (Ev.idx Ev.v (Ev.bin (Ev.bin Ev.v Ev.cint) (Ev.len B (Evs.cons Ev.v Evs.nil) (by decide +kernel) (by intro _; rfl)))) (by decide +kernel))
    (St.cons (S1.assign (Ev.idx (Ev.idx Ev.v (Ev.bin (Ev.bin Ev.v Ev.cint) (Ev.len B (Evs.cons Ev.v Evs.nil) (by decide +kernel) (by intro _; rfl)))) Ev.cint) (by decide +kernel))
    (St.cons (S1.assign Ev.cint (by decide +kernel))
    (St.cons (S1.ownList (Evs.cons (Ev.tuple (Evs.cons Ev.s (Evs.cons Ev.v Evs.nil))) (Evs.cons (Ev.tuple (Evs.cons Ev.s Evs.nil)) (Evs.cons (Ev.tuple (Evs.cons Ev.s (Evs.cons Ev.s Evs.nil))) (Evs.cons (Ev.list (Evs.cons Ev.s (Evs.cons Ev.v Evs.nil))) (Evs.cons (Ev.tuple (Evs.cons Ev.s (Evs.cons Ev.v (Evs.cons Ev.v (Evs.cons Ev.cbool Evs.nil))))) Evs.nil))))) (by decide +kernel))
    (St.cons (S1.extend (Ev.list (Evs.cons (Ev.tuple (Evs.cons Ev.s (Evs.cons Ev.v (Evs.cons Ev.v (Evs.cons (Ev.bin Ev.v Ev.cint) Evs.nil))))) (Evs.cons (Ev.tuple (Evs.cons Ev.s (Evs.cons Ev.v (Evs.cons Ev.v (Evs.cons Ev.s Evs.nil))))) (Evs.cons (Ev.tuple (Evs.cons Ev.s (Evs.cons (Ev.bin Ev.v Ev.cint) Evs.nil))) Evs.nil)))) (by decide +kernel) (by intro _; rfl) (by rfl) (by intro env h; unfold interactive; rw [h]; rfl))
    (St.cons (S1.extend (Ev.list (Evs.cons (Ev.tuple (Evs.cons Ev.s (Evs.cons (Ev.bin Ev.cint Ev.cint) Evs.nil))) (Evs.cons (Ev.tuple (Evs.cons Ev.s (Evs.cons Ev.cbool Evs.nil))) (Evs.cons (Ev.tuple (Evs.cons Ev.s (Evs.cons Ev.cint Evs.nil))) (Evs.cons (Ev.tuple Evs.nil) (Evs.cons Ev.s Evs.nil)))))) (by decide +kernel) (by intro _; rfl) (by rfl) (by intro env h; unfold interactive; rw [h]; rfl))
    (St.cons (S1.extend (Ev.list (Evs.cons (Ev.tuple (Evs.cons Ev.s (Evs.cons Ev.s Evs.nil))) (Evs.cons (Ev.tuple (Evs.cons Ev.s (Evs.cons Ev.s Evs.nil))) (Evs.cons (Ev.tuple (Evs.cons Ev.s (Evs.cons Ev.s Evs.nil))) (Evs.cons (Ev.tuple (Evs.cons Ev.s (Evs.cons Ev.v Evs.nil))) (Evs.cons (Ev.tuple (Evs.cons Ev.s (Evs.cons Ev.v (Evs.cons Ev.v (Evs.cons Ev.s Evs.nil))))) Evs.nil)))))) (by decide +kernel) (by intro _; rfl) (by rfl) (by intro env h; unfold interactive; rw [h]; rfl))
    (St.cons (S1.extend (Ev.list (Evs.cons (Ev.tuple (Evs.cons Ev.s (Evs.cons Ev.cnone Evs.nil))) (Evs.cons (Ev.tuple (Evs.cons Ev.cnone (Evs.cons Ev.v Evs.nil))) (Evs.cons (Ev.tuple (Evs.cons Ev.s (Evs.cons Ev.v (Evs.cons Ev.v (Evs.cons (Ev.bin (Ev.bin Ev.cint Ev.v) Ev.cint) Evs.nil))))) (Evs.cons (Ev.tuple (Evs.cons Ev.s (Evs.cons Ev.v (Evs.cons Ev.v (Evs.cons (Ev.bin Ev.cint Ev.v) Evs.nil))))) Evs.nil))))) (by decide +kernel) (by intro _; rfl) (by rfl) (by intro env h; unfold interactive; rw [h]; rfl))
    (St.cons (S1.extend (Ev.list (Evs.cons (Ev.tuple (Evs.cons Ev.s (Evs.cons Ev.v Evs.nil))) (Evs.cons (Ev.tuple (Evs.cons Ev.s (Evs.cons (Ev.list (Evs.cons Ev.v Evs.nil)) Evs.nil))) (Evs.cons (Ev.tuple (Evs.cons Ev.s (Evs.cons Ev.cint Evs.nil))) (Evs.cons (Ev.tuple (Evs.cons Ev.s (Evs.cons Ev.cnone Evs.nil))) (Evs.cons (Ev.tuple (Evs.cons Ev.s (Evs.cons (Ev.list (Evs.cons Ev.v Evs.nil)) Evs.nil))) (Evs.cons (Ev.tuple (Evs.cons Ev.s (Evs.cons Ev.s Evs.nil))) Evs.nil))))))) (by decide +kernel) (by intro _; rfl) (by rfl) (by intro env h; unfold interactive; rw [h]; rfl))
    (St.cons (S1.extend (Ev.list (Evs.cons (Ev.tuple (Evs.cons Ev.s (Evs.cons Ev.cnone Evs.nil))) (Evs.cons (Ev.tuple (Evs.cons Ev.s (Evs.cons (Ev.bin (Ev.bin Ev.s (Ev.def h_law_sign (Evs.cons (Ev.bin Ev.v Ev.cint) Evs.nil) (by decide +kernel) (by decide) (by intro _; rfl))) Ev.s) Evs.nil))) (Evs.cons (Ev.tuple (Evs.cons (Ev.list (Evs.cons Ev.s Evs.nil)) (Evs.cons Ev.v Evs.nil))) (Evs.cons (Ev.tuple (Evs.cons (Ev.ofT EvT.emp) (Evs.cons Ev.v Evs.nil))) Evs.nil))))) (by decide +kernel) (by intro _; rfl) (by rfl) (by intro env h; unfold interactive; rw [h]; rfl))
    (St.cons (S1.extend (Ev.list (Evs.cons (Ev.tuple (Evs.cons Ev.s (Evs.cons Ev.v (Evs.cons Ev.v (Evs.cons Ev.cnone Evs.nil))))) (Evs.cons (Ev.tuple (Evs.cons Ev.s (Evs.cons Ev.cint (Evs.cons Ev.v (Evs.cons Ev.cint Evs.nil))))) Evs.nil))) (by decide +kernel) (by intro _; rfl) (by rfl) (by intro env h; unfold interactive; rw [h]; rfl))
    (St.cons (S1.ret (Ev.idxOwn (Ev.bin Ev.v Ev.cint) (by decide +kernel) (by intro _ _; exact ⟨_, rfl⟩)))
    St.nil)))))))))))) _ (fun _ _ h => h), ?_⟩
  intro c ps ns z hp hn
  obtain ⟨k, es⟩ := e_s (c / 34)
  have hj1 : 0 ≤ c % 34 := by lia
  have hj2 : (c % 34).toNat < 34 := by lia
  have hp' : (0 : Int) < (ps.length : Nat) := by lia
  have hn' : (0 : Int) < (ns.length : Nat) := by lia
  have n1 := pickN_at hn (c / 34)
  obtain ⟨o, p1⟩ := pickP_at hp (c / 34)
  generalize pickN ns (c / 34) = nm at n1
  generalize pickP ps (c / 34) = pl at p1
  have hL : (oddD (S nm) (S pl) ⟨#[k]⟩ z).length = 34 := rfl
  refine ⟨(oddD (S nm) (S pl) ⟨#[k]⟩ z)[(c % 34).toNat]'(by rw [hL]; exact hj2), fn_ret rfl ?_, List.all_eq_true.mp (odd_ok _ _ _ _) _ (List.getElem_mem _)⟩
  refine seq (by simp only [run_eq, e_div, cond_true, cond_false, e_rho_nil, e_rho, e_fint, e_fstr, e_flist, e_rv, e_putd, e_len_l, String.reduceBEq, e_idx_l, Option.bind_eq_bind, Option.bind_some, Option.map_some, Int.reduceLT, List.length_map, e_mod hn', n1]; rfl) ?_
  refine seq (by simp only [run_eq, e_div, e_set, cond_true, cond_false, e_rho_nil, e_rho, e_fint, e_flist, e_ftup, e_rv, e_putd, e_len_l, fix_d, fl_nil, fl_str, String.reduceBEq, e_idx_l, e_idx_t, Option.bind_eq_bind, Option.bind_some, Option.map_some, Int.reduceLT, List.length_map, e_mod hp', p1, plotP, fl_opt, at_0]; rfl) ?_
  refine seq (by simp only [run_eq, e_putd, Option.bind_some]; rfl) ?_
  refine seqOwn "_law_rows" (.lst (odd1 (S nm) (S pl))) (by kernel_rfl) ?_
  refine seqOwn "_law_rows" (.lst (odd1 (S nm) (S pl) ++ odd2 (S nm) (S pl) z)) (by kernel_rfl) ?_
  refine seqOwn "_law_rows" (.lst (odd1 (S nm) (S pl) ++ odd2 (S nm) (S pl) z ++ odd3)) (by kernel_rfl) ?_
  refine seqOwn "_law_rows" (.lst (odd1 (S nm) (S pl) ++ odd2 (S nm) (S pl) z ++ odd3 ++ odd4 (S nm))) (by kernel_rfl) ?_
  refine seqOwn "_law_rows" (.lst (odd1 (S nm) (S pl) ++ odd2 (S nm) (S pl) z ++ odd3 ++ odd4 (S nm) ++ odd5 (S nm) (S pl))) (by kernel_rfl) ?_
  refine seqOwn "_law_rows" (.lst (odd1 (S nm) (S pl) ++ odd2 (S nm) (S pl) z ++ odd3 ++ odd4 (S nm) ++ odd5 (S nm) (S pl) ++ odd6 (S nm) (S pl) z)) (by kernel_rfl) ?_
  refine seqOwn "_law_rows" (.lst (odd1 (S nm) (S pl) ++ odd2 (S nm) (S pl) z ++ odd3 ++ odd4 (S nm) ++ odd5 (S nm) (S pl) ++ odd6 (S nm) (S pl) z ++ odd7 (S nm) (S pl) ⟨#[k]⟩)) (by simp only [run_eq, e_div, e_set, cond_true, cond_false, e_rho_nil, e_rho, e_fint, e_flist, e_rv, fix_d, String.reduceBEq, le_line, fls_nil, fls_d, newL_d, Option.bind_eq_bind, Option.bind_some, Option.map_some, if_true, List.map_cons, List.map_nil, List.length_cons, List.length_nil, Int.reduceLT, Nat.reduceAdd, Nat.reduceLeDiff, es]; rfl) ?_
  refine seqOwn "_law_rows" (.lst (oddD (S nm) (S pl) ⟨#[k]⟩ z)) (by kernel_rfl) (seqRet ?_)
  generalize hT : oddD (S nm) (S pl) ⟨#[k]⟩ z = T at hL
  simp only [run_eq, e_mod, e_set, cond_true, cond_false, e_rho_nil, e_rho, e_fint, e_flist, e_rv, e_ret, String.reduceBEq, Option.bind_eq_bind, Option.bind_some, Option.map_some, if_true, Int.reduceLT, intOf, hj1, List.getElem?_eq_getElem (show (c % 34).toNat < T.length by rw [hL]; exact hj2)]
noncomputable def runK (m : Rho → Option PyData) (ρ : Rho) : Option PyData := m ρ
theorem seqK {x : Rho → Option Out} {m' : Rho → Option PyData} {ρ ρ₁ : Rho} {R : PyData → Prop} (h : run x ρ = some (.next ρ₁)) (h' : ∃ y, runK m' ρ₁ = some y ∧ R y) : ∃ y, runK (fun ρ => (x ρ).bind (thenK m')) ρ = some y ∧ R y := by
  obtain ⟨y, h', r⟩ := h'
  refine ⟨y, ?_, r⟩
  show (run x ρ).bind (thenK m') = _; rw [h]; exact h'
theorem seqKE {x : Rho → Option Out} {m' : Rho → Option PyData} {ρ : Rho} {R : PyData → Prop} (P : Rho → Prop) (h : ∃ ρ₁, run x ρ = some (.next ρ₁) ∧ P ρ₁) (h' : ∀ ρ₁, P ρ₁ → ∃ y, runK m' ρ₁ = some y ∧ R y) : ∃ y, runK (fun ρ => (x ρ).bind (thenK m')) ρ = some y ∧ R y :=
  let ⟨ρ₁, h, p⟩ := h
  seqK h (h' ρ₁ p)
theorem fnH_run {ps : List String} {m : Rho → Option PyData} {xs : List PyData} {R : PyData → Prop} (hl : xs.length = ps.length) (h : ∃ y, runK m (rhoH ps xs) = some y ∧ R y) : ∃ y, fnH ps m xs = some y ∧ R y := by
  unfold fnH; rw [if_pos hl]; exact h
theorem e_rhoH {p t : String} {ps : List String} {x : PyData} {xs : List PyData} : rhoH (p :: ps) (x :: xs) t = bif t == p then some (.val (V.fix x .s)) else rhoD ps xs t := rfl
theorem e_rhoD {p t : String} {ps : List String} {x : PyData} {xs : List PyData} : rhoD (p :: ps) (x :: xs) t = bif t == p then some (.val ⟨x, .d⟩) else rhoD ps xs t := rfl
inductive GoodS : PyData → Prop
  | list (xs : List PyData) (h : xs.all okB = true) (hl : xs.length ≤ 140) : GoodS (.list xs)
  | tuple (xs : List PyData) (h : xs.all okB = true) (hl : xs.length ≤ 140) : GoodS (.tuple xs)
noncomputable def partL (lo hi : Option Int) (l : List PyData) : List PyData := (l.take (clipHi hi l.length)).drop (clipLo lo l.length)
theorem part_ok {lo hi : Option Int} {l : List PyData} (h : l.all okB = true) : (partL lo hi l).all okB = true := by
  rw [List.all_eq_true] at *
  exact fun x hx => h x (List.mem_of_mem_take (List.mem_of_mem_drop hx))
theorem part_len {lo hi : Option Int} {l : List PyData} : (partL lo hi l).length ≤ l.length := by
  unfold partL; rw [List.length_drop, List.length_take]
  exact Nat.le_trans (Nat.sub_le _ _) (Nat.min_le_right _ _)
theorem plots_okB (ps : List (List Nat × Option (List Nat))) : (ps.map plotP).all okB = true := by
  rw [List.all_eq_true]
  intro x hx
  obtain ⟨⟨a, o⟩, _, rfl⟩ := List.mem_map.mp hx
  cases o <;> kernel_rfl
theorem put_run {ρ : Rho} {e : Rho → Option V} {s : String} {x : PyData} (h : evl e ρ = some ⟨x, .d⟩) : run (fun ρ => (e ρ).bind (putV ρ s)) ρ = some (.next (ρ.set s (.val ⟨x, .d⟩))) := by
  show (evl e ρ).bind _ = _; rw [h]; rfl
theorem ev_add {ρ : Rho} {ml mr : Rho → Option V} {a b : List PyData} (h1 : evl ml ρ = some ⟨.list a, .d⟩) (h2 : evl mr ρ = some ⟨.list b, .d⟩) (h : a.length + b.length ≤ 1000) : evl (fun ρ => do let a ← ml ρ; let b ← mr ρ; aBinV .Add a b) ρ = some ⟨.list (a ++ b), .d⟩ := by
  show (evl ml ρ).bind (fun a => (evl mr ρ).bind fun b => aBinV .Add a b) = _
  rw [h1, Option.bind_some, h2, Option.bind_some, e_addl (le_line h)]
  exact congrArg some newL_d
theorem run_ownAdd {ρ : Rho} {ml mr : Rho → Option V} {x : String} {a b : List PyData} (h1 : evl ml ρ = some ⟨.list a, .d⟩) (h2 : evl mr ρ = some ⟨.list b, .d⟩) (h : a.length + b.length ≤ 1000) : run (fun ρ => (ml ρ).bind fun a => (mr ρ).bind fun b => ownAddD ρ x a b) ρ = some (.next (ρ.set x (.own (.lst (a ++ b))))) := by
  show (evl ml ρ).bind (fun a => (evl mr ρ).bind fun b => ownAddD ρ x a b) = _
  rw [h1, Option.bind_some, h2, Option.bind_some]
  show (if (Fl.d = Fl.d ∧ Fl.d = Fl.d ∧ a.length + b.length ≤ sizeLine) then _ else _) = _
  rw [if_pos ⟨rfl, rfl, le_line h⟩]
theorem run_insert {ρ : Rho} {mi m : Rho → Option V} {x : String} {ys : List PyData} {j : Int} {f : Fl} {v : PyData} (hx : ρ x = some (.own (.lst ys))) (hi : evl mi ρ = some ⟨.int j, f⟩) (hm : evl m ρ = some ⟨v, .d⟩) (h0 : 0 ≤ j) (h1 : j.toNat ≤ ys.length) (h2 : ys.length + 1 ≤ 1000) :
    run (fun ρ => match ρ x with | some (.own (.lst xs)) => (mi ρ).bind fun k => (intOf k.x).bind fun j => (m ρ).bind fun v => if v.fl = .d ∧ 0 ≤ j ∧ j.toNat ≤ xs.length ∧ xs.length + 1 ≤ sizeLine then some (.next (ρ.set x (.own (.lst (xs.take j.toNat ++ v.x :: xs.drop j.toNat))))) else none | _ => none) ρ
      = some (.next (ρ.set x (.own (.lst (ys.take j.toNat ++ v :: ys.drop j.toNat))))) := by
  dsimp only [run]
  rw [hx]
  dsimp only
  rw [show mi ρ = _ from hi, Option.bind_some]
  show (m ρ).bind _ = _
  rw [show m ρ = _ from hm, Option.bind_some]
  exact if_pos ⟨rfl, h0, h1, le_line h2⟩
noncomputable def Left (ρ : Rho) : Prop := (∃ v p, ρ "_law_plots_here" = some v ∧ retX v = some p ∧ GoodS p) ∧ ∃ v r, ρ "_law_rows" = some v ∧ retX v = some r ∧ GoodS r
theorem left_val {ρ : Rho} {p r : PyData} (h1 : ρ "_law_plots_here" = some (.val ⟨p, .d⟩)) (h2 : ρ "_law_rows" = some (.val ⟨r, .d⟩)) (g1 : GoodS p) (g2 : GoodS r) : Left ρ := ⟨⟨_, p, h1, rfl, g1⟩, ⟨_, r, h2, rfl, g2⟩⟩
theorem left_own {ρ : Rho} {p : PyData} {r : List PyData} (h1 : ρ "_law_plots_here" = some (.val ⟨p, .d⟩)) (h2 : ρ "_law_rows" = some (.own (.lst r))) (g1 : GoodS p) (g2 : GoodS (.list r)) : Left ρ := ⟨⟨_, p, h1, rfl, g1⟩, ⟨_, _, h2, rfl, g2⟩⟩
noncomputable def abc13 : List Nat := [97, 98, 99, 100, 101, 102, 103, 104, 105, 106, 107, 108, 109]
theorem abc13_eq : Str.ofString "abcdefghijklm" = S abc13 := by decide +kernel
noncomputable def onePair (c : Nat) : PyData := .tuple [.str ⟨#[c]⟩, .none]
theorem one_ok (q : List Nat) : (q.map onePair).all okB = true := by
  rw [List.all_eq_true]
  intro x hx
  obtain ⟨a, _, rfl⟩ := List.mem_map.mp hx
  kernel_rfl
theorem all_append {a b : List PyData} (ha : a.all okB = true) (hb : b.all okB = true) : (a ++ b).all okB = true := by rw [List.all_append, ha, hb]; rfl
theorem all_one {x : PyData} (h : okB x = true) : [x].all okB = true := by rw [List.all_cons, h]; rfl
theorem qzz_ok : okB (.tuple [sT "q", sT "zz"]) = true := by kernel_rfl
theorem hop_ok : okB (.tuple [sT "hop"]) = true := by kernel_rfl
theorem tn_ok (a : Str) : okB (.tuple [.str a, .none]) = true := by kernel_rfl
theorem rep_ok {xs : List PyData} (h : xs.all okB = true) (k : Nat) : (List.replicate k xs).flatten.all okB = true := by
  rw [List.all_eq_true] at *
  intro x hx
  obtain ⟨l, hl, hx⟩ := List.mem_flatten.mp hx
  rw [(List.mem_replicate.mp hl).2] at hx
  exact h x hx
theorem flats_part {lo hi : Option Int} {l : List PyData} (h : flats l = true) : flats (partL lo hi l) = true := by
  rw [flats_iff] at *
  exact fun x hx => h x (List.mem_of_mem_take (List.mem_of_mem_drop hx))
theorem rep_len (xs : List PyData) (k : Nat) : (List.replicate k xs).flatten.length = k * xs.length := by simp
theorem changed_ok (B : Bui hb) (G_max : GName hb "max" (.builtin "max")) (D : DefAt hb "_law_changed" (fnS pw 31) ["_law_script", "_law_plots_here", "_law_rows", "_law_names_here"] (fnB pw 31)) {m_at m_pair m_odd : List PyData → Option PyData} (h_law_at : DefG pw w hb 2 "_law_at" m_at) (e_at : ∀ (l : List Int) (k : Int), 0 ≤ k → m_at [.list (intsP l), .int k] = some (.int (sAt l k)))
    (h_law_pair : DefG pw w hb 3 "_law_pair" m_pair) (e_pair : ∀ (c : Int) (ps : List (List Nat × Option (List Nat))) (i : Nat), i < ps.length → ∃ x, m_pair [.int c, .list (ps.map plotP), .int i] = some x ∧ okB x = true)
    (h_law_odd_row : DefG pw w hb 3 "_law_odd_row" m_odd) (e_odd : ∀ (c : Int) (ps : List (List Nat × Option (List Nat))) (ns : List (List Nat)) (z : Int), 0 < ps.length → 0 < ns.length → ∃ x, m_odd [.int c, .list (ps.map plotP), .list (ns.map strP), .int z] = some x ∧ okB x = true) :
    ∃ m, DefH pw w hb 5 "_law_changed" m ∧ ∀ (l : List Int) (ps : List (List Nat × Option (List Nat))) (xs : List PyData) (ns : List (List Nat)), 0 < ps.length → ps.length ≤ 60 → 0 < ns.length → flats xs = true → xs.all okB = true → xs.length ≤ 60 →
      ∃ y, m [.list (intsP l), .list (ps.map plotP), .list xs, .list (ns.map strP)] = some y ∧ ∃ p r, y = .tuple [p, r] ∧ GoodS p ∧ GoodS r := by
  refine ⟨_, DefH.of D (n := 4) (StK.cons (S1.assign (Ev.bin (Ev.def h_law_at (Evs.cons Ev.v (Evs.cons Ev.cint Evs.nil)) (by decide +kernel) (by decide) (by intro _; rfl)) Ev.cint) (by decide +kernel))
    (StK.cons (S1.assign (Ev.def h_law_at (Evs.cons Ev.v (Evs.cons Ev.cint Evs.nil)) (by decide +kernel) (by decide) (by intro _; rfl)) (by decide +kernel))
    (StK.cons (S1.assign (Ev.def h_law_at (Evs.cons Ev.v (Evs.cons Ev.cint Evs.nil)) (by decide +kernel) (by decide) (by intro _; rfl)) (by decide +kernel))
    (StK.cons (S1.if (Tr.cmp Ev.v Ev.cint) (St.cons (S1.assign (Ev.callY B.tuple (Evs.cons Ev.v Evs.nil) CallOk.tuple (by decide +kernel) (by intro _; rfl)) (by decide +kernel))
      St.nil) (St.cons (S1.if (Tr.cmp Ev.v Ev.cint) (St.cons (S1.assignComp (locs := [".0", "_law_letter"]) (by decide +kernel) (It.data (Ev.slice Ev.s Pt.no (Pt.yes (Ev.bin Ev.cint (Ev.bin Ev.v Ev.cint))) Pt.no (by intro _ _; exact ⟨_, rfl⟩)) (by intro _ _; rfl)) (TgL.name (by decide +kernel) (by decide +kernel)) Ifs.nil (Ev.tuple (Evs.cons Ev.v (Evs.cons Ev.cnone Evs.nil))) (by decide +kernel))
        St.nil) (St.cons (S1.if (Tr.cmp Ev.v Ev.cint) (St.cons (S1.assign (Ev.bin Ev.v (Ev.len B (Evs.cons Ev.v Evs.nil) (by decide +kernel) (by intro _; rfl))) (by decide +kernel))
          (St.cons (S1.if (Tr.all (Trs.consAnd (Tr.cmp Ev.v Ev.cint) (Trs.consAnd (Tr.cmp (Ev.bin (Ev.bin Ev.v Ev.cint) Ev.cint) Ev.cint) Trs.nilAnd))) (St.cons (S1.assign (Ev.bin Ev.v (Ev.list (Evs.cons (Ev.tuple (Evs.cons (Ev.idx (Ev.idx Ev.v Ev.v) Ev.cint) (Evs.cons Ev.cnone Evs.nil))) Evs.nil))) (by decide +kernel))
            St.nil) (St.cons (S1.assign (Ev.bin (Ev.bin (Ev.slice Ev.v Pt.no (Pt.yes Ev.v) Pt.no (by intro _ _; exact ⟨_, rfl⟩)) (Ev.list (Evs.cons (Ev.def h_law_pair (Evs.cons Ev.v (Evs.cons Ev.v (Evs.cons Ev.v Evs.nil))) (by decide +kernel) (by decide) (by intro _; rfl)) Evs.nil))) (Ev.slice Ev.v (Pt.yes (Ev.bin Ev.v Ev.cint)) Pt.no Pt.no (by intro _ _; exact ⟨_, rfl⟩))) (by decide +kernel))
            St.nil))
          (St.cons (S1.if (Tr.cmp Ev.v Ev.cint) (St.cons (S1.assign (Ev.bin (Ev.slice Ev.v Pt.no (Pt.yes (Ev.neg Ev.cint)) Pt.no (by intro _ _; exact ⟨_, rfl⟩)) (Ev.list (Evs.cons (Ev.tuple (Evs.cons Ev.s (Evs.cons Ev.s Evs.nil))) Evs.nil))) (by decide +kernel))
            St.nil) St.nil)
          St.nil))) (St.cons (S1.if (Tr.cmp Ev.v Ev.cint) (St.cons (S1.assign (Ev.idx (Ev.list (Evs.cons (Ev.callY B.tuple (Evs.cons Ev.v Evs.nil) CallOk.tuple (by decide +kernel) (by intro _; rfl)) (Evs.cons (Ev.rep (Ev.slice Ev.v Pt.no (Pt.yes Ev.cint) Pt.no (by intro _ _; exact ⟨_, rfl⟩)) (Ev.bin Ev.cint (Ev.bin (Ev.bin Ev.v Ev.cint) Ev.cint))) Evs.nil))) (Ev.bin Ev.v Ev.cint)) (by decide +kernel))
            St.nil) (St.cons (S1.if (Tr.cmp Ev.v Ev.cint) (St.cons (S1.assign (Ev.bin Ev.v (Ev.callB G_max (Evs.cons Ev.cint (Evs.cons (Ev.len B (Evs.cons Ev.v Evs.nil) (by decide +kernel) (by intro _; rfl)) Evs.nil)) CallOk.max (by decide +kernel) (by intro _; rfl))) (by decide +kernel))
              (St.cons (S1.ownAdd (Ev.bin (Ev.slice Ev.v Pt.no (Pt.yes Ev.v) Pt.no (by intro _ _; exact ⟨_, rfl⟩)) (Ev.list (Evs.cons (Ev.def h_law_odd_row (Evs.cons Ev.v (Evs.cons Ev.v (Evs.cons Ev.v (Evs.cons (Ev.len B (Evs.cons Ev.v Evs.nil) (by decide +kernel) (by intro _; rfl)) Evs.nil)))) (by decide +kernel) (by decide) (by intro _; rfl)) Evs.nil))) (Ev.slice Ev.v (Pt.yes (Ev.bin Ev.v Ev.cint)) Pt.no Pt.no (by intro _ _; exact ⟨_, rfl⟩)) (by decide +kernel) (by intro _ _; rfl))
              (St.cons (S1.if (Tr.all (Trs.consAnd (Tr.cmp Ev.v Ev.cint) (Trs.consAnd (Tr.cmp (Ev.len B (Evs.cons Ev.v Evs.nil) (by decide +kernel) (by intro _; rfl)) Ev.cint) Trs.nilAnd))) (St.cons (S1.insert (Ev.bin (Ev.bin Ev.v Ev.cint) (Ev.bin (Ev.len B (Evs.cons Ev.v Evs.nil) (by decide +kernel) (by intro _; rfl)) Ev.cint)) (Ev.tuple (Evs.cons Ev.s Evs.nil)) (by decide +kernel) (by intro _; rfl) (by rfl) (by intro env h; unfold interactive; rw [h]; rfl))
                St.nil) St.nil)
              St.nil))) St.nil)
            St.nil))
          St.nil))
        St.nil))
      St.nil))
    (StK.retPair (by decide +kernel) (by decide +kernel)))))), ?_⟩
  intro l ps xs ns hp hp' hn hfl hok hlen
  have a3 := e_at l 3 (by decide)
  have a4 := e_at l 4 (by decide)
  have a5 := e_at l 5 (by decide)
  have pok := plots_okB ps
  have gP : GoodS (.list (ps.map plotP)) := .list _ pok (by simp only [List.length_map]; lia)
  have gR : GoodS (.list xs) := .list _ hok (by lia)
  refine fnH_run rfl ?_
  refine seqK (by simp only [run_eq, e_mod, cond_true, e_flist, e_rv, e_putd, String.reduceBEq, Option.bind_eq_bind, Option.bind_some, Option.map_some, List.map_cons, List.map_nil, Int.reduceLT, e_rhoH, a3]; rfl) ?_
  refine seqK (by simp only [run_eq, e_set, cond_true, cond_false, e_flist, e_rv, e_putd, String.reduceBEq, Option.bind_eq_bind, Option.bind_some, Option.map_some, List.map_cons, List.map_nil, e_rhoH, a4]; rfl) ?_
  have hk : 0 ≤ sAt l 3 % 9 ∧ sAt l 3 % 9 < 9 := by lia
  generalize sAt l 4 = c
  generalize sAt l 3 % 9 = k at hk
  refine seqKE (fun ρ => ρ "_law_kind" = some (.val ⟨.int k, .d⟩) ∧ ρ "_law_cell" = some (.val ⟨.int c, .d⟩) ∧ ρ "_law_spot" = some (.val ⟨.int (sAt l 5), .d⟩) ∧ ρ "_law_plots_here" = some (.val ⟨.list (ps.map plotP), .d⟩) ∧ ρ "_law_rows" = some (.val ⟨.list xs, .d⟩) ∧ ρ "_law_names_here" = some (.val ⟨.list (ns.map strP), .d⟩))
    ⟨_, by simp only [run_eq, e_set, cond_true, cond_false, e_flist, e_rv, e_putd, String.reduceBEq, Option.bind_eq_bind, Option.bind_some, Option.map_some, List.map_cons, List.map_nil, e_rhoH, a5]; rfl, by simp only [e_set, cond_true, cond_false, String.reduceBEq], by simp only [e_set, cond_true, cond_false, String.reduceBEq], by simp only [e_set, cond_true, cond_false, String.reduceBEq], by simp only [e_set, cond_true, cond_false, e_flist, String.reduceBEq, e_rhoH, e_rhoD], by simp only [e_set, cond_true, cond_false, e_flist, String.reduceBEq, e_rhoH, e_rhoD], by simp only [e_set, cond_true, cond_false, e_flist, String.reduceBEq, e_rhoH, e_rhoD]⟩ ?_
  rintro ρ ⟨f1, f2, f3, f4, f5, f6⟩
  generalize sAt l 5 = t at f3
  clear a3 a4 a5
  refine seqKE Left ?_ ?_
  · have hk' : k = 0 ∨ k = 1 ∨ (2 ≤ k ∧ k < 4) ∨ k = 4 ∨ (5 ≤ k ∧ k < 8) ∨ k = 8 := by lia
    rcases hk' with rfl | rfl | hk' | rfl | hk' | rfl
    · exact if_yes (by simp only [tst_eq, e_rv, e_eqi, Option.bind_eq_bind, Option.bind_some, Int.reduceBEq, f1]) (seqN (by simp only [run_eq, e_rv, e_putd, fix_d, Option.bind_eq_bind, Option.bind_some, f4, aTuple]; rfl) (doneN (left_val (by simp only [e_set, cond_true, String.reduceBEq]) (by simp only [e_set, cond_false, String.reduceBEq, f5]) (.tuple _ pok (by simp only [List.length_map]; lia)) gR)))
    · refine if_no (by simp only [tst_eq, e_rv, e_eqi, Option.bind_eq_bind, Option.bind_some, Int.reduceBEq, f1]) (seqX Left (if_yes (by simp only [tst_eq, e_rv, e_eqi, Option.bind_eq_bind, Option.bind_some, Int.reduceBEq, f1]) (seqN (by
        simp only [run_eq, e_add, e_mod, e_rv, e_sls, lo_none, Option.bind_eq_bind, Option.bind_some, Int.reduceLT, compV, f2, abc13_eq, itemsOf, signs]
        rw [show (S ((abc13.take (clipHi (some (12 + c % 2)) abc13.length)).drop 0)).cps.toList = (abc13.take (clipHi (some (12 + c % 2)) abc13.length)).drop 0 from rfl]
        rw [comp_map (fun c => .str ⟨#[c]⟩) onePair (fun c _ => by kernel_rfl)]
        simp only [Option.map_some]; rfl) (doneN (left_val (by simp only [e_set, cond_true, String.reduceBEq]; rfl) (by simp only [e_set, cond_false, String.reduceBEq, f5]) (.list _ (one_ok _) ?_) gR)))) (fun _ h => doneN h))
      rw [List.length_map, List.drop_zero, List.length_take]
      exact Nat.le_trans (Nat.min_le_right _ _) (by decide)
    · refine if_no (by simp only [tst_eq, e_rv, e_eqi, Option.bind_eq_bind, Option.bind_some, f1, show (k == 0) = false from beq_eq_false_iff_ne.mpr (by lia)]) (seqX Left (if_no (by simp only [tst_eq, e_rv, e_eqi, Option.bind_eq_bind, Option.bind_some, f1, show (k == 1) = false from beq_eq_false_iff_ne.mpr (by lia)]) (seqX Left (if_yes (by simp only [tst_eq, e_rv, e_lt, Option.bind_eq_bind, Option.bind_some, f1, decide_eq_true hk'.2]) ?_) (fun _ h => doneN h))) (fun _ h => doneN h))
      have hp0 : (0 : Int) < (ps.length : Nat) := by lia
      obtain ⟨i, hi, ei⟩ : ∃ i : Nat, i < ps.length ∧ t % (ps.length : Nat) = i := ⟨(t % (ps.length : Nat)).toNat, by have := Int.emod_lt_of_pos t hp0; lia, by have := Int.emod_nonneg t (show ((ps.length : Nat) : Int) ≠ 0 by lia); lia⟩
      have hidx : seqAt (ps.map plotP) i = some (plotP (ps[i])) := by rw [seqAt_nat (by lia), List.getElem?_map, Int.toNat_natCast, List.getElem?_eq_getElem hi]; rfl
      generalize ps[i] = q at hidx
      have hl60 : (ps.map plotP).length ≤ 60 := by simp only [List.length_map]; exact hp'
      obtain ⟨x, ex, okx⟩ := e_pair c ps i hi
      refine seqN (by simp only [run_eq, e_rv, e_putd, e_len_l, Option.bind_eq_bind, Option.bind_some, Option.map_some, f3, f4, List.length_map, e_mod hp0, ei]; rfl) ?_
      refine seqX (fun ρ => (∃ zs, ρ "_law_plots_here" = some (.val ⟨.list zs, .d⟩) ∧ zs.all okB = true ∧ zs.length ≤ 130) ∧ ρ "_law_rows" = some (.val ⟨.list xs, .d⟩) ∧ ρ "_law_kind" = some (.val ⟨.int k, .d⟩)) ?_ ?_
      · by_cases hA : k = 2 ∧ c / 17 % 2 = 1
        · refine if_yes (by simp only [tst_eq, e_div, e_mod, e_set, cond_false, e_rv, e_eqi, String.reduceBEq, Option.bind_eq_bind, Option.bind_some, if_true, Int.reduceLT, Int.reduceBEq, f1, f2, hA.1, hA.2]) (seqN (put_run (ev_add (a := ps.map plotP) (b := [.tuple [.str (S q.1), .none]]) (by simp only [evl_eq, e_set, cond_false, e_rv, String.reduceBEq, Option.bind_some, f4]) (by simp only [evl_eq, e_set, cond_true, cond_false, e_rv, fix_d, String.reduceBEq, e_idx_l, e_idx_t, le_line, fls_nil, fls_d, newL_d, Option.bind_eq_bind, Option.bind_some, if_true, List.map_cons, List.map_nil, List.length_cons, List.length_nil, Nat.reduceAdd, Nat.reduceLeDiff, f4, hidx, plotP, at_0]) (by simp only [List.length_cons, List.length_nil]; lia))) (doneN ⟨⟨ps.map plotP ++ [.tuple [.str (S q.1), .none]], by simp only [e_set, cond_true, cond_false, String.reduceBEq], all_append pok (all_one (tn_ok _)), by simp only [List.length_append, List.length_cons, List.length_nil]; lia⟩, by simp only [e_set, cond_false, String.reduceBEq, f5], by simp only [e_set, cond_false, String.reduceBEq, f1]⟩))
        · have hl1 := part_len (lo := none) (hi := some (i : Int)) (l := ps.map plotP)
          have hl2 := part_len (lo := some ((i : Int) + 1)) (hi := none) (l := ps.map plotP)
          refine if_no ?_ (seqN (put_run (ev_add (a := partL none (some (i : Int)) (ps.map plotP) ++ [x]) (b := partL (some ((i : Int) + 1)) none (ps.map plotP)) (ev_add (by simp only [evl_eq, e_set, cond_true, cond_false, e_rv, String.reduceBEq, e_sll, lo_none, newL_d, Option.bind_eq_bind, Option.bind_some, f4]; rfl) (by simp only [evl_eq, e_set, cond_true, cond_false, e_rv, String.reduceBEq, le_line, fls_nil, fls_d, newL_d, Option.bind_eq_bind, Option.bind_some, Option.map_some, if_true, List.map_cons, List.map_nil, List.length_cons, List.length_nil, Nat.reduceAdd, Nat.reduceLeDiff, f2, f4, ex]) (by simp only [List.length_cons, List.length_nil]; lia)) (by simp only [evl_eq, e_add, e_set, cond_true, cond_false, e_rv, String.reduceBEq, e_sll, hi_none, newL_d, Option.bind_eq_bind, Option.bind_some, f4]; rfl) (by simp only [List.length_append, List.length_cons, List.length_nil]; lia)))
            (doneN ⟨⟨partL none (some (i : Int)) (ps.map plotP) ++ [x] ++ partL (some ((i : Int) + 1)) none (ps.map plotP), by simp only [e_set, cond_true, cond_false, String.reduceBEq], all_append (all_append (part_ok pok) (all_one okx)) (part_ok pok), by simp only [List.length_append, List.length_cons, List.length_nil]; lia⟩, by simp only [e_set, cond_false, String.reduceBEq, f5], by simp only [e_set, cond_false, String.reduceBEq, f1]⟩))
          by_cases h2 : k = 2
          · have h3 : (c / 17 % 2 == 1) = false := beq_eq_false_iff_ne.mpr fun e => hA ⟨h2, e⟩
            simp only [tst_eq, e_div, e_mod, e_set, cond_false, e_rv, e_eqi, String.reduceBEq, Option.bind_eq_bind, Option.bind_some, if_true, if_false, Bool.false_eq_true, Int.reduceLT, Int.reduceBEq, f1, f2, h2, h3]
          · simp only [tst_eq, e_set, cond_false, e_rv, e_eqi, String.reduceBEq, Option.bind_eq_bind, Option.bind_some, if_false, Bool.false_eq_true, f1, beq_eq_false_iff_ne.mpr h2]
      · rintro ρ' ⟨⟨zs, z1, z2, z3⟩, z4, z5⟩
        by_cases h3 : k = 3
        · have hl1 := part_len (lo := none) (hi := some (-1)) (l := zs)
          refine seqN (ifR_yes (by simp only [tst_eq, e_rv, e_eqi, Option.bind_eq_bind, Option.bind_some, Int.reduceBEq, z5, h3]) (seq (put_run (ev_add (a := partL none (some (-1)) zs) (b := [.tuple [sT "q", sT "zz"]]) (by simp only [evl_eq, e_rv, e_sll, lo_none, newL_d, Option.bind_eq_bind, Option.bind_some, Int.reduceNeg, z1]; rfl) (by simp only [evl_eq, fix_d, le_line, fls_nil, fls_d, newL_d, Option.bind_eq_bind, Option.bind_some, if_true, List.map_cons, List.map_nil, List.length_cons, List.length_nil, Nat.reduceAdd, Nat.reduceLeDiff]) (by simp only [List.length_cons, List.length_nil]; lia))) rfl)) (doneN (left_val (p := .list (partL none (some (-1)) zs ++ [.tuple [sT "q", sT "zz"]])) (by simp only [e_set, cond_true, String.reduceBEq, Int.reduceNeg]) (by simp only [e_set, cond_false, String.reduceBEq, Int.reduceNeg, z4]) (.list _ (all_append (part_ok z2) (all_one qzz_ok)) (by simp only [List.length_append, List.length_cons, List.length_nil]; lia)) gR))
        · exact seqN (ifR_no (by simp only [tst_eq, e_rv, e_eqi, Option.bind_eq_bind, Option.bind_some, z5, beq_eq_false_iff_ne.mpr h3]) rfl) (doneN (left_val z1 z4 (.list _ z2 (by lia)) gR))
    · refine if_no (by simp only [tst_eq, e_rv, e_eqi, Option.bind_eq_bind, Option.bind_some, Int.reduceBEq, f1]) (seqX Left (if_no (by simp only [tst_eq, e_rv, e_eqi, Option.bind_eq_bind, Option.bind_some, Int.reduceBEq, f1]) (seqX Left (if_no (by simp only [tst_eq, e_rv, e_lt, Option.bind_eq_bind, Option.bind_some, Int.reduceLT, f1, decide_false]) (seqX Left (if_yes (by simp only [tst_eq, e_rv, e_eqi, Option.bind_eq_bind, Option.bind_some, Int.reduceBEq, f1]) ?_) (fun _ h => doneN h))) (fun _ h => doneN h))) (fun _ h => doneN h))
      obtain ⟨j, hj, ej⟩ : ∃ j : Nat, j < 2 ∧ c % 2 = j := ⟨(c % 2).toNat, by lia, by lia⟩
      have hl1 := part_len (lo := none) (hi := some 1) (l := xs)
      have hrep : repD (.list ((xs.take (clipHi (some 1) xs.length)).drop 0)) (.int (60 + c / 2 % 2)) = some ⟨.list (List.replicate (60 + c / 2 % 2).toNat (partL none (some 1) xs)).flatten, .d⟩ := if_pos ⟨flats_part (lo := none) (hi := some 1) hfl, by lia, by show (partL none (some 1) xs).length ≤ 1000; lia⟩
      have hl2 : (partL none (some 1) xs).length ≤ 1 := by
        show ((xs.take (min 1 xs.length)).drop 0).length ≤ 1
        simp only [List.drop_zero, List.length_take]; lia
      have hj' : j = 0 ∨ j = 1 := by lia
      rcases hj' with rfl | rfl
      · exact seqN (put_run (x := .tuple xs) (by simp only [evl_eq, e_add, e_div, e_mod, e_rv, fix_d, e_idx_l, e_sll, lo_none, le_line, fls_nil, fls_d, newL_d, Option.bind_eq_bind, Option.bind_some, if_true, List.map_cons, List.map_nil, List.length_cons, List.length_nil, Int.reduceLT, Nat.reduceAdd, Nat.reduceLeDiff, f2, f5, aTuple, ej, hrep]; rfl)) (doneN (left_val (by simp only [e_set, cond_false, String.reduceBEq, f4]) (by simp only [e_set, cond_true, String.reduceBEq]) gP (.tuple _ hok (by lia))))
      · refine seqN (put_run (x := .list (List.replicate (60 + c / 2 % 2).toNat (partL none (some 1) xs)).flatten) (by simp only [evl_eq, e_add, e_div, e_mod, e_rv, fix_d, e_idx_l, e_sll, lo_none, le_line, fls_nil, fls_d, newL_d, Option.bind_eq_bind, Option.bind_some, if_true, List.map_cons, List.map_nil, List.length_cons, List.length_nil, Int.reduceLT, Nat.reduceAdd, Nat.reduceLeDiff, f2, f5, aTuple, ej, hrep]; rfl)) (doneN (left_val (r := .list (List.replicate (60 + c / 2 % 2).toNat (partL none (some 1) xs)).flatten) (by simp only [e_set, cond_false, String.reduceBEq, f4]) (by simp only [e_set, cond_true, String.reduceBEq]) gP (.list _ (rep_ok (part_ok hok) _) ?_)))
        rw [rep_len]
        exact Nat.le_trans (Nat.mul_le_mul (show (60 + c / 2 % 2).toNat ≤ 61 by lia) hl2) (by decide)
    · refine if_no (by simp only [tst_eq, e_rv, e_eqi, Option.bind_eq_bind, Option.bind_some, f1, show (k == 0) = false from beq_eq_false_iff_ne.mpr (by lia)]) (seqX Left (if_no (by simp only [tst_eq, e_rv, e_eqi, Option.bind_eq_bind, Option.bind_some, f1, show (k == 1) = false from beq_eq_false_iff_ne.mpr (by lia)]) (seqX Left (if_no (by simp only [tst_eq, e_rv, e_lt, Option.bind_eq_bind, Option.bind_some, f1, show decide (k < 4) = false from decide_eq_false (by lia)]) (seqX Left (if_no (by simp only [tst_eq, e_rv, e_eqi, Option.bind_eq_bind, Option.bind_some, f1, show (k == 4) = false from beq_eq_false_iff_ne.mpr (by lia)]) (seqX Left (if_yes (by simp only [tst_eq, e_rv, e_lt, Option.bind_eq_bind, Option.bind_some, f1, decide_eq_true hk'.2]) ?_) (fun _ h => doneN h))) (fun _ h => doneN h))) (fun _ h => doneN h))) (fun _ h => doneN h))
      obtain ⟨x, ex, okx⟩ := e_odd c ps ns xs.length hp hn
      have hmx : (0 : Int) < (if ((xs.length : Nat) : Int) > 1 then ((xs.length : Nat) : Int) else 1) := by split <;> lia
      refine seqN (by simp only [run_eq, e_rv, e_putd, e_len_l, Option.bind_eq_bind, Option.bind_some, Option.map_some, f3, f5, aMax, intOf, e_mod hmx]; rfl) ?_
      generalize t % (if ((xs.length : Nat) : Int) > 1 then ((xs.length : Nat) : Int) else 1) = a
      have hl1 := part_len (lo := none) (hi := some a) (l := xs)
      have hl2 := part_len (lo := some (a + 1)) (hi := none) (l := xs)
      refine seqN (run_ownAdd (a := partL none (some a) xs ++ [x]) (b := partL (some (a + 1)) none xs) (ev_add (by simp only [evl_eq, e_set, cond_true, cond_false, e_rv, String.reduceBEq, e_sll, lo_none, newL_d, Option.bind_eq_bind, Option.bind_some, f5]; rfl) (by simp only [evl_eq, e_set, cond_false, e_rv, e_len_l, String.reduceBEq, le_line, fls_nil, fls_d, newL_d, Option.bind_eq_bind, Option.bind_some, Option.map_some, if_true, List.map_cons, List.map_nil, List.length_cons, List.length_nil, Nat.reduceAdd, Nat.reduceLeDiff, f2, f4, f5, f6, ex]) (by simp only [List.length_cons, List.length_nil]; lia)) (by simp only [evl_eq, e_add, e_set, cond_true, cond_false, e_rv, String.reduceBEq, e_sll, hi_none, newL_d, Option.bind_eq_bind, Option.bind_some, f5]; rfl) (by simp only [List.length_append, List.length_cons, List.length_nil]; lia)) ?_
      have hys : (partL none (some a) xs ++ [x] ++ partL (some (a + 1)) none xs).all okB = true := all_append (all_append (part_ok hok) (all_one okx)) (part_ok hok)
      have hyl : (partL none (some a) xs ++ [x] ++ partL (some (a + 1)) none xs).length ≤ 121 := by simp only [List.length_append, List.length_cons, List.length_nil]; lia
      generalize partL none (some a) xs ++ [x] ++ partL (some (a + 1)) none xs = ys at hys hyl
      by_cases h7 : k = 7 ∧ ys.length < 60
      · have hm : (0 : Int) < ((ys.length : Nat) : Int) + 1 := by lia
        have hj1 := Int.emod_nonneg (c / 24) (show ((ys.length : Nat) : Int) + 1 ≠ 0 by lia)
        have hj2 := Int.emod_lt_of_pos (c / 24) hm
        refine seqN (ifR_yes (by simp only [tst_eq, e_set, cond_true, cond_false, e_rv, e_rl, e_lt, e_eqi, e_len_l, String.reduceBEq, Option.bind_eq_bind, Option.bind_some, Option.map_some, if_true, Int.reduceBEq, f1, h7.1, show decide (((ys.length : Nat) : Int) < 60) = true from decide_eq_true (by lia)]) (seq (run_insert (ys := ys) (f := .d) (by simp only [e_set, cond_true, cond_false, String.reduceBEq]) (j := c / 24 % (((ys.length : Nat) : Int) + 1)) (v := .tuple [sT "hop"]) (by simp only [evl_eq, e_add, e_div, e_set, cond_true, cond_false, e_rv, e_rl, e_len_l, String.reduceBEq, Option.bind_eq_bind, Option.bind_some, Option.map_some, Int.reduceLT, f2, e_mod hm]) (by simp only [evl_eq, fix_d, le_line, fls_nil, fls_d, Option.bind_eq_bind, Option.bind_some, if_true, List.map_cons, List.map_nil, List.length_cons, List.length_nil, Nat.reduceAdd, Nat.reduceLeDiff]) hj1 (by lia) (by lia)) rfl)) (doneN (left_own (r := ys.take (c / 24 % (((ys.length : Nat) : Int) + 1)).toNat ++ .tuple [sT "hop"] :: ys.drop (c / 24 % (((ys.length : Nat) : Int) + 1)).toNat) (by simp only [e_set, cond_false, String.reduceBEq, f4]) (by simp only [e_set, cond_true, cond_false, String.reduceBEq]) gP (.list _ ?_ ?_)))
        · rw [List.all_eq_true] at *
          intro z hz
          rcases List.mem_append.mp hz with q | q
          · exact hys z (List.mem_of_mem_take q)
          · rcases List.mem_cons.mp q with q | q
            · rw [q]; exact hop_ok
            · exact hys z (List.mem_of_mem_drop q)
        · simp only [List.length_append, List.length_take, List.length_cons, List.length_drop]; lia
      · refine seqN (ifR_no ?_ rfl) (doneN (left_own (by simp only [e_set, cond_false, String.reduceBEq, f4]) (by simp only [e_set, cond_true, cond_false, String.reduceBEq]) gP (.list _ hys (by lia))))
        by_cases h8 : k = 7
        · simp only [tst_eq, e_set, cond_true, cond_false, e_rv, e_rl, e_lt, e_eqi, e_len_l, String.reduceBEq, Option.bind_eq_bind, Option.bind_some, Option.map_some, if_true, if_false, Bool.false_eq_true, Int.reduceBEq, f1, h8, show decide (((ys.length : Nat) : Int) < 60) = false from decide_eq_false fun q => h7 ⟨h8, by lia⟩]
        · simp only [tst_eq, e_set, cond_true, cond_false, e_rv, e_rl, e_lt, e_eqi, e_len_l, String.reduceBEq, Option.bind_eq_bind, Option.bind_some, Option.map_some, if_false, Bool.false_eq_true, decide_eq_true_eq, f1, beq_eq_false_iff_ne.mpr h8]
    · exact if_no (by simp only [tst_eq, e_rv, e_eqi, Option.bind_eq_bind, Option.bind_some, Int.reduceBEq, f1]) (seqX Left (if_no (by simp only [tst_eq, e_rv, e_eqi, Option.bind_eq_bind, Option.bind_some, Int.reduceBEq, f1]) (seqX Left (if_no (by simp only [tst_eq, e_rv, e_lt, Option.bind_eq_bind, Option.bind_some, Int.reduceLT, f1, decide_false]) (seqX Left (if_no (by simp only [tst_eq, e_rv, e_eqi, Option.bind_eq_bind, Option.bind_some, Int.reduceBEq, f1]) (seqX Left (if_no (by simp only [tst_eq, e_rv, e_lt, Option.bind_eq_bind, Option.bind_some, Int.reduceLT, f1, decide_false]) (doneN (left_val f4 f5 gP gR))) (fun _ h => doneN h))) (fun _ h => doneN h))) (fun _ h => doneN h))) (fun _ h => doneN h))
  · rintro ρ ⟨⟨v, p, h1, h2, g1⟩, ⟨v', r, h3, h4, g2⟩⟩
    refine ⟨_, ?_, p, r, rfl, g1, g2⟩
    show (ρ "_law_plots_here").bind _ = _
    simp only [h1, h2, h3, h4, Option.bind_some, Option.map_some]
theorem plots_len (l : List Int) : (plotsS l).length = (manyS l).toNat := by simp [plotsS]
theorem ints_take (l : List Int) (a b : Nat) : ((intsP l).take a).drop b = intsP ((l.take a).drop b) := by simp [intsP]
theorem flats_ints (l : List Int) : flats (intsP l) = true := by
  rw [flats_iff]; intro x hx
  obtain ⟨i, _, rfl⟩ := List.mem_map.mp hx
  rfl
theorem newL_ints (l : List Int) (f : Fl) : V.newL (intsP l) f = ⟨.list (intsP l), .d⟩ := by unfold V.newL; rw [if_pos (flats_ints l)]
theorem names_pos (l : List Int) : 0 < (namesS l (plotsS l)).length := by
  have h1 := plots_len l
  have h2 := many_le l
  have h3 := nmany_le l
  unfold namesS; split
  · simp; lia
  · simp; lia
theorem badP_at {p a : PyData} (h : badP p = some a) : a = .none ∨ ∃ k : Nat, a = .int k := by
  cases ht : isT "list" p with
  | false => rw [badP_no ht] at h; exact .inl (Option.some.inj h).symm
  | true =>
    obtain ⟨xs, rfl⟩ := isT_lst ht
    rw [badP_list] at h
    split at h
    · exact .inl (Option.some.inj h).symm
    · obtain ⟨k, _, e⟩ := Option.map_eq_some_iff.mp h
      exact .inr ⟨k, e.symm⟩
theorem badR_at {known : List Str} {p a : PyData} (h : badR known p = some a) : a = .none ∨ ∃ k : Nat, a = .int k := by
  cases ht : isT "list" p with
  | false => rw [badR_no ht] at h; exact .inl (Option.some.inj h).symm
  | true =>
    obtain ⟨xs, rfl⟩ := isT_lst ht
    rw [badR_list] at h
    split at h
    · exact .inl (Option.some.inj h).symm
    · obtain ⟨k, _, e⟩ := Option.map_eq_some_iff.mp h
      exact .inr ⟨k, e.symm⟩
noncomputable def cells1 (l : List Int) : List Int :=
  if sAt l 3 / 18 % 8 = 1 then (List.range (40 + sAt l 3 / 144 % 21).toNat).map fun (k : Nat) => sAt l (6 + k % 3) / 7 + 7919 * k else (l.take (clipHi (some 20) l.length)).drop (clipLo (some 6) l.length)
theorem cells1_le (l : List Int) : (cells1 l).length ≤ 60 := by
  unfold cells1
  split
  · simp; lia
  · rw [List.length_drop, List.length_take]
    have : clipHi (some 20) l.length ≤ 20 := by unfold clipHi; simp; lia
    lia
theorem okB_all {xs : List PyData} (h : xs.all okB = true) : dns xs = true ∧ PyData.depthAll xs ≤ 5 := by
  induction xs with
  | nil => exact ⟨rfl, Nat.zero_le _⟩
  | cons x xs ih =>
    rw [List.all_cons, Bool.and_eq_true] at h
    obtain ⟨h1, h2⟩ := ih h.2
    have h0 := h.1
    unfold okB at h0
    rw [Bool.and_eq_true, decide_eq_true_eq] at h0
    refine ⟨by simp only [dns, h0.1, h1, Bool.and_self], ?_⟩
    show max x.depth (PyData.depthAll xs) ≤ 5
    exact Nat.max_le.mpr ⟨h0.2, h2⟩
theorem GoodS.dn {p : PyData} (h : GoodS p) : dn p = true ∧ p.depth ≤ 6 := by
  cases h with
  | list xs h hl => obtain ⟨h1, h2⟩ := okB_all h; exact ⟨h1, Nat.succ_le_succ h2⟩
  | tuple xs h hl => obtain ⟨h1, h2⟩ := okB_all h; exact ⟨h1, Nat.succ_le_succ h2⟩
theorem rows_okB (rs : List Row) : (rs.map rowP).all okB = true := by
  rw [List.all_eq_true]
  intro x hx
  obtain ⟨r, _, rfl⟩ := List.mem_map.mp hx
  cases r <;> kernel_rfl
theorem rows_flat (rs : List Row) : flats (rs.map rowP) = true := (flats_iff _).mpr fun x hx => by
  obtain ⟨r, _, rfl⟩ := List.mem_map.mp hx
  cases r <;> rfl
noncomputable def itemsP : PyData → List PyData
  | .list xs => xs
  | .tuple xs => xs
  | _ => []
inductive AtOk : PyData → Prop
  | none : AtOk .none
  | int (k : Nat) : AtOk (.int k)
  | true : AtOk (.bool true)
theorem law_ok (B : Bui hb) (D : DefAt hb "law" (fnS pw 33) ["_law_script"] (fnB pw 33)) {m_at m_plots m_names m_row m_bp m_br m_w m_ch m_sd : List PyData → Option PyData} (h_law_at : DefG pw w hb 2 "_law_at" m_at)
    (e_at : ∀ (l : List Int) (k : Int), 0 ≤ k → m_at [.list (intsP l), .int k] = some (.int (sAt l k))) (h_law_plots : DefG pw w hb 3 "_law_plots" m_plots) (e_plots : ∀ l : List Int, m_plots [.list (intsP l)] = some (.list ((plotsS l).map plotP)))
    (h_law_names : DefG pw w hb 3 "_law_names" m_names) (e_names : ∀ (l : List Int) (ps : List (List Nat × Option (List Nat))), m_names [.list (intsP l), .list (ps.map plotP)] = some (.list ((namesS l ps).map strP)))
    (h_law_row : DefG pw w hb 2 "_law_row" m_row) (e_row : ∀ (c : Int) (ps : List (List Nat × Option (List Nat))) (ns : List (List Nat)) (size : Int), 0 < ps.length → 0 < ns.length → 0 ≤ size → m_row [.int c, .list (ps.map plotP), .list (ns.map strP), .int size] = some (rowP (rowS c ps ns size)))
    (h_law_changed : DefH pw w hb 5 "_law_changed" m_ch) (e_ch : ∀ (l : List Int) (ps : List (List Nat × Option (List Nat))) (xs : List PyData) (ns : List (List Nat)), 0 < ps.length → ps.length ≤ 60 → 0 < ns.length → flats xs = true → xs.all okB = true → xs.length ≤ 60 →
      ∃ y, m_ch [.list (intsP l), .list (ps.map plotP), .list xs, .list (ns.map strP)] = some y ∧ ∃ p r, y = .tuple [p, r] ∧ GoodS p ∧ GoodS r)
    (h_law_bad_pair : DefG pw w hb 3 "_law_bad_pair" m_bp) (e_bp : ∀ p : PyData, dn p = true → m_bp [p] = some (.tuple [.bool (badP p).isSome, (badP p).getD .none]))
    (h_law_bad_row : DefG pw w hb 4 "_law_bad_row" m_br) (e_br : ∀ p r : PyData, badP p = none → dn r = true → m_br [p, r] = some (.tuple [.bool (badR (knownP p) r).isSome, (badR (knownP p) r).getD .none]))
    (h_law_whole : DefG pw w hb 2 "_law_whole" m_w) (e_w : ∀ x : PyData, instD x = false → m_w [x] = some (.bool (wholeB x)))
    (h_law_said : DefS pw w hb 7 "_law_said" m_sd) (e_sd : ∀ (k : Int) (p r : PyData), dn p = true → dn r = true → m_sd [.int k, p, r] = some (saidD p r)) :
    ∃ m, StT pw w hb 8 (fnS pw 33) (fnB pw 33) m ∧ ∀ l : List Int, run m (rho0 ["_law_script"] [.list (intsP l)]) = some (.ret (.bool true)) := by
  refine ⟨_, (StT.cons (S1.assign (Ev.def h_law_plots (Evs.cons Ev.v Evs.nil) (by decide +kernel) (by decide) (by intro _; rfl)) (by decide +kernel))
    (StT.cons (S1.assign (Ev.def h_law_names (Evs.cons Ev.v (Evs.cons Ev.v Evs.nil)) (by decide +kernel) (by decide) (by intro _; rfl)) (by decide +kernel))
    (StT.cons (S1.assign (Ev.slice Ev.v (Pt.yes Ev.cint) (Pt.yes Ev.cint) Pt.no (by intro _ _; exact ⟨_, rfl⟩)) (by decide +kernel))
    (StT.cons (S1.if (Tr.cmp (Ev.bin (Ev.bin (Ev.def h_law_at (Evs.cons Ev.v (Evs.cons Ev.cint Evs.nil)) (by decide +kernel) (by decide) (by intro _; rfl)) Ev.cint) Ev.cint) Ev.cint) (St.cons (S1.assignCompC (locs := [".0", "_law_k"]) (by decide +kernel) (It.range (by decide +kernel) B.range (Ev.bin Ev.cint (Ev.bin (Ev.bin (Ev.def h_law_at (Evs.cons Ev.v (Evs.cons Ev.cint Evs.nil)) (by decide +kernel) (by decide) (by intro _; rfl)) Ev.cint) Ev.cint)) (by intro _; rfl)) (TgL.name (by decide +kernel) (by decide +kernel)) Ifs.nil (Ev.bin (Ev.bin (Ev.def h_law_at (Evs.cons Ev.v (Evs.cons (Ev.bin Ev.cint (Ev.bin Ev.v Ev.cint)) Evs.nil)) (by decide +kernel) (by decide) (by intro _; rfl)) Ev.cint) (Ev.bin Ev.cint Ev.v)) (by decide +kernel) (by rfl) (by decide +kernel))
      St.nil) St.nil)
    (StT.cons (S1.assignComp (locs := [".0", "_law_cell"]) (by decide +kernel) (It.data Ev.v (by intro _ _; rfl)) (TgL.name (by decide +kernel) (by decide +kernel)) Ifs.nil (Ev.def h_law_row (Evs.cons Ev.v (Evs.cons Ev.v (Evs.cons Ev.v (Evs.cons (Ev.len B (Evs.cons Ev.v Evs.nil) (by decide +kernel) (by intro _; rfl)) Evs.nil)))) (by decide +kernel) (by decide) (by intro _; rfl)) (by decide +kernel))
    (StT.cons (S1.assignTg (Ev.defH h_law_changed (Evs.cons Ev.v (Evs.cons Ev.v (Evs.cons Ev.v (Evs.cons Ev.v Evs.nil)))) (by decide +kernel) (by decide) (by intro _; rfl)) (Tg.tuple (xs := ["_law_plots_here", "_law_rows"]) (by decide +kernel) rfl (by intro _; rfl)) (by intro _ _; rfl) (by intro _; rfl) (by intro _; rfl))
    (StT.cons (S1.assignTg (Ev.def h_law_bad_pair (Evs.cons Ev.v Evs.nil) (by decide +kernel) (by decide) (by intro _; rfl)) (Tg.tuple (xs := ["_law_is_bad", "_law_at_here"]) (by decide +kernel) rfl (by intro _; rfl)) (by intro _ _; rfl) (by intro _; rfl) (by intro _; rfl))
    (StT.cons (S1.assign (Ev.tuple (Evs.cons Ev.s (Evs.cons Ev.v Evs.nil))) (by decide +kernel))
    (StT.cons (S1.if (Tr.not (Tr.val Ev.v (by intro _ _; rfl))) (St.cons (S1.assignTg (Ev.def h_law_bad_row (Evs.cons Ev.v (Evs.cons Ev.v Evs.nil)) (by decide +kernel) (by decide) (by intro _; rfl)) (Tg.tuple (xs := ["_law_is_bad", "_law_at_here"]) (by decide +kernel) rfl (by intro _; rfl)) (by intro _ _; rfl) (by intro _; rfl) (by intro _; rfl))
      (St.cons (S1.assign (Ev.tuple (Evs.cons Ev.s (Evs.cons Ev.v Evs.nil))) (by decide +kernel))
      St.nil)) St.nil)
    (StT.cons (S1.if (Tr.not (Tr.val Ev.v (by intro _ _; rfl))) (St.cons (S1.assign (Ev.tuple (Evs.cons Ev.s (Evs.cons Ev.cbool Evs.nil))) (by decide +kernel))
      St.nil) St.nil)
    (StT.cons (S1.ownList (Evs.cons (Ev.listOf B (Evs.cons Ev.v Evs.nil) (by decide +kernel) (by intro _; rfl)) (Evs.cons (Ev.listOf B (Evs.cons Ev.v Evs.nil) (by decide +kernel) (by intro _; rfl)) Evs.nil)) (by decide +kernel))
    (StT.cons (S1.if (Tr.val (Ev.isinst tyOk_tuple (by decide +kernel) B.isinstance (by decide +kernel) B.tuple Ev.v (by intro _; rfl)) (by intro _ _; rfl)) (St.cons (S1.setIdx Ev.cint (Ev.callY B.tuple (Evs.cons Ev.v Evs.nil) CallOk.tuple (by decide +kernel) (by intro _; rfl)) (by decide +kernel) (by intro _; rfl))
      St.nil) St.nil)
    (StT.cons (S1.if (Tr.val (Ev.isinst tyOk_tuple (by decide +kernel) B.isinstance (by decide +kernel) B.tuple Ev.v (by intro _; rfl)) (by intro _ _; rfl)) (St.cons (S1.setIdx Ev.cint (Ev.callY B.tuple (Evs.cons Ev.v Evs.nil) CallOk.tuple (by decide +kernel) (by intro _; rfl)) (by decide +kernel) (by intro _; rfl))
      St.nil) St.nil)
    (StT.said h_law_said (Evs.cons (Ev.bin (Ev.bin (Ev.def h_law_at (Evs.cons Ev.v (Evs.cons Ev.cint Evs.nil)) (by decide +kernel) (by decide) (by intro _; rfl)) Ev.cint) Ev.cint) (Evs.cons (Ev.idx Ev.v Ev.cint) (Evs.cons (Ev.idx Ev.v Ev.cint) Evs.nil))) (by decide +kernel) (by decide +kernel) (by decide) (by intro _; rfl) (by intro _ _; rfl)
    (StT.of (St.cons (S1.if (Tr.all (Trs.consOr (Tr.neSame Ev.v (Ev.list (Evs.cons Ev.v (Evs.cons Ev.v Evs.nil))) (by rfl)) (Trs.consOr (Tr.cmp (Ev.idx Ev.v Ev.cint) (Ev.idx Ev.v Ev.cint)) Trs.nilOr))) (St.cons (S1.ret Ev.cbool)
      St.nil) St.nil)
    (St.cons (S1.if (Tr.all (Trs.consOr (Tr.isTrue (Ev.idx Ev.v Ev.cint) (by rfl)) (Trs.consOr (Tr.cmp (Ev.idx Ev.v Ev.cint) Ev.cnone) Trs.nilOr))) (St.cons (S1.ret (Ev.and2 (Ev.cmp (Ev.isinst tyOk_bool (by decide +kernel) B.isinstance (by decide +kernel) B.bool (Ev.idx Ev.v Ev.cint) (by intro _; rfl)) (Ev.isinst tyOk_bool (by decide +kernel) B.isinstance (by decide +kernel) B.bool (Ev.idx Ev.v Ev.cint) (by intro _; rfl)) (by rfl)) (Ev.cmp (Ev.idx Ev.v Ev.cint) (Ev.idx Ev.v Ev.cint) (by rfl))))
      St.nil) St.nil)
    (St.cons (S1.ret (Ev.and2 (Ev.def h_law_whole (Evs.cons (Ev.idx Ev.v Ev.cint) Evs.nil) (by decide +kernel) (by decide) (by intro _; rfl)) (Ev.cmp (Ev.idx Ev.v Ev.cint) (Ev.idx Ev.v Ev.cint) (by rfl))))
    St.nil)))))))))))))))))), ?_⟩
  intro l
  have a3 := e_at l 3 (by decide)
  have hpl := e_plots l
  have hnm := e_names l (plotsS l)
  have hplen := plots_len l
  have hmany := many_le l
  have hnpos := names_pos l
  have hcl := cells1_le l
  refine seq (by simp only [run_eq, cond_true, e_rho_nil, e_rho, e_flist, e_rv, e_putd, String.reduceBEq, Option.bind_eq_bind, Option.bind_some, Option.map_some, List.map_cons, List.map_nil, hpl]; rfl) ?_
  refine seq (by simp only [run_eq, e_set, cond_true, cond_false, e_rho_nil, e_rho, e_flist, e_rv, e_putd, String.reduceBEq, Option.bind_eq_bind, Option.bind_some, Option.map_some, List.map_cons, List.map_nil, hnm]; rfl) ?_
  refine seq (by simp only [run_eq, e_set, cond_true, cond_false, e_rho_nil, e_rho, e_flist, e_rv, e_putd, String.reduceBEq, e_sll, Option.bind_eq_bind, Option.bind_some, ints_length, ints_take, newL_ints]; rfl) ?_
  refine seqE (fun ρ => ρ "_law_script" = some (.val ⟨.list (intsP l), .s⟩) ∧ ρ "_law_plots_here" = some (.val ⟨.list ((plotsS l).map plotP), .d⟩) ∧ ρ "_law_names_here" = some (.val ⟨.list ((namesS l (plotsS l)).map strP), .d⟩) ∧ ρ "_law_cells" = some (.val ⟨.list (intsP (cells1 l)), .d⟩)) ?_ ?_
  · by_cases h5 : sAt l 3 / 18 % 8 = 1
    · have hv : cells1 l = (List.range (40 + sAt l 3 / 144 % 21).toNat).map fun (k : Nat) => sAt l (6 + k % 3) / 7 + 7919 * k := if_pos h5
      refine if_yes (by simp only [tst_eq, e_div, e_mod, e_set, cond_true, cond_false, e_rho_nil, e_rho, e_flist, e_rv, e_eqi, String.reduceBEq, Option.bind_eq_bind, Option.bind_some, Option.map_some, List.map_cons, List.map_nil, Int.reduceLT, Int.reduceBEq, a3, h5]) ?_
      refine seqN (by
        simp only [run_eq, e_add, e_div, e_mod, e_set, cond_true, cond_false, e_rho_nil, e_rho, e_flist, e_rv, String.reduceBEq, Option.bind_eq_bind, Option.bind_some, Option.map_some, if_true, List.map_cons, List.map_nil, and_self, Int.reduceLT, Int.reducePow, Int.reduceNeg, a3, compV, le_lineI (show 40 + sAt l 3 / 144 % 21 ≤ 1000 by lia), rng_lo (show 0 ≤ 40 + sAt l 3 / 144 % 21 by lia)]
        rw [comp_range (fun k => .int (sAt l (6 + (k : Int) % 3) / 7 + 7919 * k)) (fun k hk => by simp only [e_add, e_mul_l, e_div, e_mod, e_set, cond_true, cond_false, e_rho_nil, e_rho, e_fint, e_flist, e_rv, e_putRd, e_inc, memS_nil, memS_cons, Bool.false_or, String.reduceBEq, Option.bind_some, Option.map_some, Option.bind_none, if_true, List.map_cons, List.map_nil, Int.reduceLT, Int.reduceNeg, cstep, e_at l (6 + (k : Int) % 3) (by lia)])]
        simp only [Option.map_some]; rfl) ?_
      refine doneN ⟨by simp only [e_set, cond_true, cond_false, e_rho_nil, e_rho, e_flist, String.reduceBEq], by simp only [e_set, cond_true, cond_false, e_rho_nil, e_rho, e_flist, String.reduceBEq], by simp only [e_set, cond_true, cond_false, e_rho_nil, e_rho, e_flist, String.reduceBEq], ?_⟩
      simp only [e_set, cond_true, cond_false, e_rho_nil, e_rho, e_flist, String.reduceBEq, hv, intsP, List.map_map]; rfl
    · have hv : cells1 l = (l.take (clipHi (some 20) l.length)).drop (clipLo (some 6) l.length) := if_neg h5
      have h5' : (sAt l 3 / 18 % 8 == 1) = false := beq_eq_false_iff_ne.mpr h5
      refine if_no (by simp only [tst_eq, e_div, e_mod, e_set, cond_true, cond_false, e_rho_nil, e_rho, e_flist, e_rv, e_eqi, String.reduceBEq, Option.bind_eq_bind, Option.bind_some, Option.map_some, List.map_cons, List.map_nil, Int.reduceLT, a3, h5']) ?_
      exact doneN ⟨by simp only [e_set, cond_true, cond_false, e_rho_nil, e_rho, e_flist, String.reduceBEq], by simp only [e_set, cond_true, cond_false, e_rho_nil, e_rho, e_flist, String.reduceBEq], by simp only [e_set, cond_true, cond_false, e_rho_nil, e_rho, e_flist, String.reduceBEq], by simp only [e_set, cond_true, cond_false, e_rho_nil, e_rho, e_flist, String.reduceBEq, hv]⟩
  rintro ρ ⟨s1, s2, s3, s4⟩
  generalize hrs : (cells1 l).map (fun c => rowS c (plotsS l) (namesS l (plotsS l)) (cells1 l).length) = rs
  have hrl : rs.length ≤ 60 := by rw [← hrs]; simp; exact hcl
  obtain ⟨y, ey, p, r, rfl, gp, gr⟩ := e_ch l (plotsS l) (rs.map rowP) (namesS l (plotsS l)) (by lia) (by lia) hnpos (rows_flat rs) (rows_okB rs) (by simp only [List.length_map]; exact hrl)
  refine seq (by
    simp only [run_eq, e_rv, Option.bind_eq_bind, Option.bind_some, s4, compV, itemsOf]
    rw [show intsP (cells1 l) = (cells1 l).map .int from rfl, comp_map .int (fun c => rowP (rowS c (plotsS l) (namesS l (plotsS l)) (cells1 l).length)) (fun c _ => by
      have := e_row c (plotsS l) (namesS l (plotsS l)) (cells1 l).length (by lia) hnpos (by lia)
      simp only [e_set, cond_true, cond_false, e_fint, e_flist, e_rv, e_putRd, e_len_l, e_inc, memS_nil, memS_cons, Bool.false_or, String.reduceBEq, Option.bind_some, Option.map_some, if_true, List.map_cons, List.map_nil, cstep, s2, s3, s4, ints_length, this])]
    simp only [Option.map_some]
    rw [show (cells1 l).map (fun c => rowP (rowS c (plotsS l) (namesS l (plotsS l)) (cells1 l).length)) = rs.map rowP by rw [← hrs, List.map_map]; rfl]) ?_
  refine seqE (fun ρ => ρ "_law_script" = some (.val ⟨.list (intsP l), .s⟩) ∧ ρ "_law_plots_here" = some (.val ⟨p, .d⟩) ∧ ρ "_law_rows" = some (.val ⟨r, .d⟩)) ⟨_, by simp only [run_eq, e_set, cond_true, cond_false, e_rv, e_putRd, e_tup, e_putn, e_putc, fix_d, String.reduceBEq, fls_nil, fls_d, Option.bind_eq_bind, Option.bind_some, Option.map_some, if_true, List.map_cons, List.map_nil, s1, s2, s3, callH, ey]; rfl, by simp only [e_set, cond_false, String.reduceBEq, s1], by simp only [e_set, cond_true, cond_false, String.reduceBEq], by simp only [e_set, cond_true, cond_false, String.reduceBEq]⟩ ?_
  clear s1 s2 s3 s4 hrl hrs ey hcl hnpos hmany hplen hnm hpl e_row e_names e_plots e_ch
  rintro ρ ⟨s1, s2, s3⟩
  obtain ⟨dp, depp⟩ := gp.dn
  obtain ⟨dr, depr⟩ := gr.dn
  have ebp := e_bp p dp
  have esd := e_sd (sAt l 3 / 9 % 2) p r dp dr
  -- what is due
  refine seqE (fun ρ => ρ "_law_script" = some (.val ⟨.list (intsP l), .s⟩) ∧ ρ "_law_plots_here" = some (.val ⟨p, .d⟩) ∧ ρ "_law_rows" = some (.val ⟨r, .d⟩) ∧ ρ "_law_is_bad" = some (.val ⟨.bool (badP p).isSome, .d⟩) ∧ ρ "_law_at_here" = some (.val ⟨(badP p).getD .none, .d⟩)) ⟨_, by simp only [run_eq, e_rv, e_putRd, e_tup, e_putn, e_putc, fix_d, Option.bind_eq_bind, Option.bind_some, Option.map_some, List.map_cons, List.map_nil, s2, ebp, fix_d]; rfl, by simp only [e_set, cond_false, String.reduceBEq, s1], by simp only [e_set, cond_false, String.reduceBEq, s2], by simp only [e_set, cond_false, String.reduceBEq, s3], by simp only [e_set, cond_true, cond_false, String.reduceBEq], by simp only [e_set, cond_true, cond_false, String.reduceBEq]⟩ ?_
  clear s1 s2 s3
  rintro ρ ⟨s1, s2, s3, s4, s5⟩
  refine seq (by simp only [run_eq, e_rv, e_putd, fix_d, le_line, fls_nil, fls_d, Option.bind_eq_bind, Option.bind_some, if_true, List.map_cons, List.map_nil, List.length_cons, List.length_nil, Nat.reduceAdd, Nat.reduceLeDiff, s5]; rfl) ?_
  refine seqE (fun ρ => ρ "_law_script" = some (.val ⟨.list (intsP l), .s⟩) ∧ ρ "_law_plots_here" = some (.val ⟨p, .d⟩) ∧ ρ "_law_rows" = some (.val ⟨r, .d⟩) ∧ ∃ (b : Bool) (wd : Str) (a : PyData), ρ "_law_is_bad" = some (.val ⟨.bool b, .d⟩) ∧ ρ "_law_due" = some (.val ⟨.tuple [.str wd, a], .d⟩) ∧ ((b = true ∧ saidD p r = .tuple [.str wd, a] ∧ AtOk a) ∨ (b = false ∧ saidD p r = .tuple [.str (Str.ofString "fine"), .bool true]))) ?_ ?_
  · cases hb' : badP p with
    | some a =>
      rw [hb'] at s4
      refine if_no (by simp only [tst_eq, e_set, cond_false, e_rv, e_tb, String.reduceBEq, Option.bind_eq_bind, Option.bind_some, Option.map_some, Bool.not_true, s4, Option.isSome_some]) (doneN ⟨by simp only [e_set, cond_false, String.reduceBEq, s1], by simp only [e_set, cond_false, String.reduceBEq, s2], by simp only [e_set, cond_false, String.reduceBEq, s3], true, _, _, by simp only [e_set, cond_false, String.reduceBEq, s4]; rfl, by simp only [e_set, cond_true, String.reduceBEq]; rfl, .inl ⟨rfl, ?_, ?_⟩⟩)
      · unfold saidD; rw [hb']; rfl
      · rw [Option.getD_some]
        rcases badP_at hb' with rfl | ⟨k, rfl⟩
        · exact .none
        · exact .int k
    | none =>
      rw [hb'] at s4
      have ebr := e_br p r hb' dr
      refine if_yes (by simp only [tst_eq, e_set, cond_false, e_rv, e_tb, String.reduceBEq, Option.bind_eq_bind, Option.bind_some, Option.map_some, Bool.not_false, s4, Option.isSome_none]) (seqN (by simp only [run_eq, e_set, cond_false, e_rv, e_putRd, e_tup, e_putn, e_putc, fix_d, String.reduceBEq, Option.bind_eq_bind, Option.bind_some, Option.map_some, List.map_cons, List.map_nil, s2, s3, ebr, fix_d]; rfl) (seqN (by simp only [run_eq, e_set, cond_true, cond_false, e_rv, e_putd, fix_d, String.reduceBEq, le_line, fls_nil, fls_d, Option.bind_eq_bind, Option.bind_some, if_true, List.map_cons, List.map_nil, List.length_cons, List.length_nil, Nat.reduceAdd, Nat.reduceLeDiff]; rfl) (doneN ⟨by simp only [e_set, cond_false, String.reduceBEq, s1], by simp only [e_set, cond_false, String.reduceBEq, s2], by simp only [e_set, cond_false, String.reduceBEq, s3], _, _, _, by simp only [e_set, cond_true, cond_false, String.reduceBEq]; rfl, by simp only [e_set, cond_true, cond_false, String.reduceBEq]; rfl, ?_⟩)))
      cases hr' : badR (knownP p) r with
      | some a =>
        refine .inl ⟨rfl, ?_, ?_⟩
        · unfold saidD; rw [hb']; dsimp only; rw [hr']; rfl
        · rw [Option.getD_some]
          rcases badR_at hr' with rfl | ⟨k, rfl⟩
          · exact .none
          · exact .int k
      | none =>
        refine .inr ⟨rfl, ?_⟩
        unfold saidD; rw [hb']; dsimp only; rw [hr']
  clear s1 s2 s3 s4 s5 ebp e_bp e_br
  rintro ρ ⟨s1, s2, s3, b, wd, a, s4, s5, hba⟩
  refine seqE (fun ρ => ρ "_law_script" = some (.val ⟨.list (intsP l), .s⟩) ∧ ρ "_law_plots_here" = some (.val ⟨p, .d⟩) ∧ ρ "_law_rows" = some (.val ⟨r, .d⟩) ∧ ∃ (wd : Str) (a : PyData), ρ "_law_due" = some (.val ⟨.tuple [.str wd, a], .d⟩) ∧ saidD p r = .tuple [.str wd, a] ∧ AtOk a) ?_ ?_
  · rcases hba with ⟨rfl, h1, h2⟩ | ⟨rfl, h1⟩
    · exact if_no (by simp only [tst_eq, e_rv, e_tb, Option.bind_eq_bind, Option.bind_some, Option.map_some, Bool.not_true, s4]) (doneN ⟨s1, s2, s3, wd, a, s5, h1, h2⟩)
    · exact if_yes (by simp only [tst_eq, e_rv, e_tb, Option.bind_eq_bind, Option.bind_some, Option.map_some, Bool.not_false, s4]) (seqN (by simp only [run_eq, e_putd, fix_d, le_line, fls_nil, fls_d, Option.bind_eq_bind, Option.bind_some, if_true, List.map_cons, List.map_nil, List.length_cons, List.length_nil, Nat.reduceAdd, Nat.reduceLeDiff]; rfl) (doneN ⟨by simp only [e_set, cond_false, String.reduceBEq, s1], by simp only [e_set, cond_false, String.reduceBEq, s2], by simp only [e_set, cond_false, String.reduceBEq, s3], Str.ofString "fine", .bool true, by simp only [e_set, cond_true, String.reduceBEq], h1, .true⟩))
  clear s1 s2 s3 s4 s5 hba b wd a
  rintro ρ ⟨s1, s2, s3, wd, a, s4, hsaid, hat⟩
  rw [hsaid] at esd
  -- what is handed
  refine seqOwn "_law_handed" (.lst [.list (itemsP p), .list (itemsP r)]) ?_ ?_
  · cases gp <;> cases gr <;> (simp only [run_eq, e_rv, le_line, fls_nil, fls_d, newL_d, Option.bind_eq_bind, Option.bind_some, if_true, List.map_cons, List.map_nil, List.length_cons, List.length_nil, and_self, Nat.reduceAdd, Nat.reduceLeDiff, s2, s3]; rfl)
  refine seqE (fun ρ => ρ "_law_script" = some (.val ⟨.list (intsP l), .s⟩) ∧ ρ "_law_plots_here" = some (.val ⟨p, .d⟩) ∧ ρ "_law_rows" = some (.val ⟨r, .d⟩) ∧ ρ "_law_due" = some (.val ⟨.tuple [.str wd, a], .d⟩) ∧ ρ "_law_handed" = some (.own (.lst [p, .list (itemsP r)]))) ?_ ?_
  · cases gp with
    | list ps hps hl => exact if_no (by simp only [tst_eq, e_set, cond_false, e_rv, e_tb, Bool.false_or, String.reduceBEq, Option.bind_eq_bind, Option.bind_some, isTo_list, s2, isT, tyName]; rfl) (doneN ⟨by simp only [e_set, cond_false, String.reduceBEq, s1], by simp only [e_set, cond_false, String.reduceBEq, s2], by simp only [e_set, cond_false, String.reduceBEq, s3], by simp only [e_set, cond_false, String.reduceBEq, s4], by simp only [e_set, cond_true, String.reduceBEq]; rfl⟩)
    | tuple ps hps hl => exact if_yes (by simp only [tst_eq, e_set, cond_false, e_rv, e_tb, String.reduceBEq, Option.bind_eq_bind, Option.bind_some, isTo_tuple, s2, isT, tyName]; rfl) (seqN (by simp only [run_eq, e_set, cond_true, cond_false, e_rv, fix_d, String.reduceBEq, Option.bind_eq_bind, Option.bind_some, List.length_cons, List.length_nil, true_and, Int.reduceLE, Nat.reduceAdd, Int.reduceToNat, s2, aTuple, intOf]; rfl) (doneN ⟨by simp only [e_set, cond_false, String.reduceBEq, s1], by simp only [e_set, cond_false, String.reduceBEq, s2], by simp only [e_set, cond_false, String.reduceBEq, s3], by simp only [e_set, cond_false, String.reduceBEq, s4], by simp only [e_set, cond_true, String.reduceBEq]; rfl⟩))
  clear s1 s2 s3 s4
  rintro ρ ⟨s1, s2, s3, s4, s5⟩
  refine seqE (fun ρ => ρ "_law_script" = some (.val ⟨.list (intsP l), .s⟩) ∧ ρ "_law_plots_here" = some (.val ⟨p, .d⟩) ∧ ρ "_law_rows" = some (.val ⟨r, .d⟩) ∧ ρ "_law_due" = some (.val ⟨.tuple [.str wd, a], .d⟩) ∧ ρ "_law_handed" = some (.own (.lst [p, r]))) ?_ ?_
  · cases gr with
    | list ps hps hl => exact if_no (by simp only [tst_eq, e_rv, e_tb, Bool.false_or, String.reduceBEq, Option.bind_eq_bind, Option.bind_some, isTo_list, s3, isT, tyName]; rfl) (doneN ⟨s1, s2, s3, s4, s5⟩)
    | tuple ps hps hl => exact if_yes (by simp only [tst_eq, e_rv, e_tb, String.reduceBEq, Option.bind_eq_bind, Option.bind_some, isTo_tuple, s3, isT, tyName]; rfl) (seqN (by simp only [run_eq, e_rv, fix_d, Option.bind_eq_bind, Option.bind_some, List.length_cons, List.length_nil, true_and, Int.reduceLE, Nat.reduceAdd, Int.reduceToNat, s3, s5, aTuple, intOf]; rfl) (doneN ⟨by simp only [e_set, cond_false, String.reduceBEq, s1], by simp only [e_set, cond_false, String.reduceBEq, s2], by simp only [e_set, cond_false, String.reduceBEq, s3], by simp only [e_set, cond_false, String.reduceBEq, s4], by simp only [e_set, cond_true, String.reduceBEq]; rfl⟩))
  clear s1 s2 s3 s4 s5
  rintro ρ ⟨s1, s2, s3, s4, s5⟩
  have hne : neSameD (.list [p, r]) (.list [p, r]) = some false := by
    refine if_pos ⟨rfl, by simp only [dns, dp, dr, Bool.and_self], ?_⟩
    show max p.depth (max r.depth 0) + 1 ≤ 60
    have := Nat.max_le.mpr ⟨depp, Nat.max_le.mpr ⟨depr, Nat.zero_le 6⟩⟩
    lia
  refine seq (by simp only [run_eq, e_div, e_mod, e_rv, e_rl, e_idx_l, Option.bind_eq_bind, Option.bind_some, Option.map_some, List.map_cons, List.map_nil, Int.reduceLT, s1, s5, a3, at_0, at_1, fix_x, esd, putS]; rfl) ?_
  refine seq (ifR_no (by simp only [tst_eq, e_set, cond_true, cond_false, e_rv, e_rl, e_nes, fix_d, String.reduceBEq, e_idx_t, le_line, fls_nil, fls_d, newL_d, Option.bind_eq_bind, Option.bind_some, if_true, if_false, Bool.false_eq_true, List.map_cons, List.map_nil, List.length_cons, List.length_nil, Nat.reduceAdd, Nat.reduceLeDiff, Bool.not_true, s2, s3, s4, s5, hne, at_0, beq_self_eq_true]) rfl) ?_
  cases hat with
  | none => exact seqRet (ifR_yes (by simp only [tst_eq, e_set, cond_false, e_rv, e_is, fix_d, String.reduceBEq, e_idx_t, Option.bind_eq_bind, Option.bind_some, if_true, if_false, Bool.false_eq_true, s4, at_1, isTrueD, isNone]) (seqRet (by simp only [run_eq, e_set, cond_true, cond_false, e_rv, fix_d, String.reduceBEq, e_idx_t, Option.bind_eq_bind, Option.bind_some, isTo_none, s4, at_1]; rfl)))
  | int k => exact seq (ifR_no (by simp only [tst_eq, e_set, cond_false, e_rv, e_is, fix_d, String.reduceBEq, e_idx_t, Option.bind_eq_bind, Option.bind_some, if_false, Bool.false_eq_true, s4, at_1, isTrueD, isNone]) rfl) (seqRet (by simp only [run_eq, e_set, cond_true, cond_false, e_rv, e_ret, e_eqi, e_tb, fix_d, String.reduceBEq, e_idx_t, Option.bind_eq_bind, Option.bind_some, Option.map_some, if_true, List.map_cons, List.map_nil, s4, at_1, e_w (.int k) rfl, wholeB, beq_self_eq_true]))
  | true => exact seqRet (ifR_yes (by simp only [tst_eq, e_set, cond_false, e_rv, e_is, fix_d, String.reduceBEq, e_idx_t, Option.bind_eq_bind, Option.bind_some, if_true, s4, at_1, isTrueD]) (seqRet (by simp only [run_eq, e_set, cond_true, cond_false, e_rv, fix_d, String.reduceBEq, e_idx_t, Option.bind_eq_bind, Option.bind_some, isTo_bool, s4, at_1]; rfl)))
end

section
open PySem PySem.Calls PySem.W PyProof.Rows
variable {w : World} {hb : Heap}
noncomputable def excOk (h : Heap) (name : Str) (tl : List Value) : Bool := match h.clsAt mainGlobals name with
  | some (C, o, cd) => decide (o.cls = .type "type") && decide (cd.mro = .ref C :: tl) && !cd.hasDel && decide (o.slots.size = 6) && decide (o.slots[4]? = some (some (.builtin "ValueError.__new__"))) && h.isNs cd.ns
  | none => false
inductive ExcSeen (h : Heap) (name : Str) (tl : List Value) : Prop
  | mk (C N : Addr) (nm q : Str) (bs : List Value) (hdct : Bool) (sn : List Str) (sub : List Value) (ab : Bool) (col : Option Bool) (dd : Option Addr) (k0 k1 k2 k3 k5 : Option Value) (hn : h.nsMap mainGlobals name = some (.ref C))
    (hC : h.get? C = some (excClassObj nm q C N bs tl hdct sn sub ab col dd k0 k1 k2 k3 k5 "ValueError.__new__")) (hN : h.Ns N (h.nsMap N)) : ExcSeen h name tl
theorem excOk_seen {h : Heap} {name : Str} {tl : List Value} (x : excOk h name tl = true) : ExcSeen h name tl := by
  unfold excOk at x
  cases hf : h.clsAt mainGlobals name with
  | none => rw [hf] at x; cases x
  | some y =>
    obtain ⟨C, o, cd⟩ := y
    rw [hf] at x
    obtain ⟨hn, ho, hd⟩ := Heap.clsAt_spec hf
    obtain ⟨oc, dd, dt, sl⟩ := o
    obtain ⟨nm, bs, mro, N, q, hdct, sn, sub, ab, col, hdel⟩ := cd
    simp only [Bool.and_eq_true, decide_eq_true_eq, Bool.not_eq_true'] at x
    obtain ⟨⟨⟨⟨⟨hcls, hmro⟩, hdl⟩, hsz⟩, hmk⟩, hns⟩ := x
    obtain ⟨l⟩ := sl
    obtain ⟨k0, k1, k2, k3, k5, rfl⟩ := six_places (l := l) (by simpa using hsz) (by simpa using hmk)
    obtain rfl : oc = .type "type" := hcls
    obtain rfl : dt = _ := hd
    obtain rfl : hdel = false := hdl
    subst hmro
    exact ⟨C, N, nm, q, bs, hdct, sn, sub, ab, col, dd, k0, k1, k2, k3, k5, hn, ho, .of_isNs hns⟩
noncomputable def addrOf (h : Heap) (name : Str) : Addr := match h.nsMap mainGlobals name with
  | some (.ref a) => a
  | _ => 0
noncomputable def nsOf (h : Heap) (C : Addr) : Addr := match h.get? C with
  | some o => (match o.data with | .cls cd => cd.ns | _ => 0)
  | none => 0
noncomputable def fragOf (h : Heap) (as : List Addr) : Frag := as.filterMap fun a => (h.get? a).map fun o => (a, o)
theorem fragOf_in (h : Heap) (as : List Addr) : (fragOf h as).In h := by
  intro a o e
  unfold fragOf at e
  induction as with
  | nil => cases e
  | cons b as ih =>
    rw [List.filterMap_cons] at e
    cases hb : h.get? b with
    | none => rw [hb] at e; exact ih e
    | some x =>
      rw [hb] at e
      simp only [Option.map_some, List.lookup_cons] at e
      split at e
      · rename_i q; cases e; rw [beq_iff_eq.mp q]; exact hb
      · exact ih e
theorem addr_of {h : Heap} {name : Str} {C : Addr} (e : h.nsMap mainGlobals name = some (.ref C)) : addrOf h name = C := by unfold addrOf; rw [e]
noncomputable def initShape (q : String) (i : Nat) : FnShape := ⟨Str.ofString "__init__", Str.ofString q, mthP pw i 0, .stmts (mthB pw i 0), mthS pw i 0, mainGlobals, [], .none, .none, none, .none, builtinsNs, true⟩
noncomputable def fnCls (h : Heap) (N : Addr) : Bool := match h.fnAt N (Str.ofString "__init__") with
  | some (_, o, _) => decide (o.cls = .type "function")
  | none => false
inductive InitSeen (h : Heap) (N : Addr) (i : Nat) : Prop
  | mk (f : Addr) (o : Obj) (hn : h.nsMap N (Str.ofString "__init__") = some (.ref f)) (ho : h.get? f = some o) (hc : o.cls = .type "function") (D : DefOk h f (mthS pw i 0) ["self", "words", "at"] (mthB pw i 0)) : InitSeen h N i
theorem init_seen {h : Heap} {N : Addr} {q : String} {i : Nat} (e : h.shapeAt N (Str.ofString "__init__") = some (initShape q i)) (hc : fnCls h N = true) (hl : defLook (mthS pw i 0) (mthP pw i 0) ["self", "words", "at"] = true) : InitSeen h N i := by
  obtain ⟨hA, hnm, hk, hgen, hco, hon, hnd, hv⟩ := defLook_ok hl
  unfold Heap.shapeAt at e
  unfold fnCls at hc
  cases hf : h.fnAt N (Str.ofString "__init__") with
  | none => rw [hf] at e; cases e
  | some y =>
    obtain ⟨f, o, fd⟩ := y
    rw [hf] at e hc
    obtain ⟨h1, h2, h3⟩ := Heap.fnAt_spec hf
    obtain ⟨n, qn, ps, b, sc, g, cl, df, kd, doc, pm, an, code, ct, bi⟩ := fd
    simp only [Option.map_some, initShape, Option.some.injEq, FnShape.mk.injEq] at e
    obtain ⟨rfl, rfl, rfl, rfl, rfl, rfl, rfl, rfl, rfl, rfl, rfl, rfl, hcr⟩ := e
    exact ⟨f, o, h1, h2, of_decide_eq_true hc, ⟨o, _, (mthP pw i 0).args, h2, h3, hA, hnm, rfl, rfl, rfl, rfl, rfl, rfl, .of_ok hcr⟩, hk, hgen, hco, hon, hnd, hv⟩
noncomputable def clsOk (K : Frag) (C P : Addr) : Bool := (match clsIn K C with
  | some cd => decide (cd.mro = .ref C :: .ref P :: veMro) && cd.hasDict
  | none => false) && decide (findIn K (.ref C) "__setattr__" = some (some (.builtin "object.__setattr__"))) && decide (findIn K (.ref C) "at" = some none)
theorem clsOk_spec {K : Frag} {C P : Addr} (x : clsOk K C P = true) : ClsK K C P := by
  unfold clsOk at x
  simp only [Bool.and_eq_true, decide_eq_true_eq] at x
  obtain ⟨⟨x1, x2⟩, x3⟩ := x
  cases hc : clsIn K C with
  | none => rw [hc] at x1; cases x1
  | some cd =>
    rw [hc] at x1
    simp only [Bool.and_eq_true, decide_eq_true_eq] at x1
    exact ⟨cd, hc, x1.1, x1.2, x2, x3⟩
noncomputable def errOk (K : Frag) (D : Addr) : Bool := decide (findIn K (.ref D) "__getattribute__" = some (some (.builtin "BaseException.__getattribute__"))) && decide (findIn K (.ref D) "__getattr__" = some none) && decide (mroIn K D (.type "BaseException") = some true) && (clsIn K D).isSome && decide (findIn K (.ref D) "__class__" = some (some (.builtin "object.__class__"))) &&
  decide (specialIn K (.builtin "object.__class__") "__get__" = some (some (.builtin "getset_descriptor.__get__"))) && decide (takesIn K (.builtin "object.__class__") = some true) && decide (mroIn K D (.type "object") = some true)
theorem errOk_spec {K : Frag} {D : Addr} (x : errOk K D = true) : ErrK K D := by
  unfold errOk at x
  simp only [Bool.and_eq_true, decide_eq_true_eq] at x
  obtain ⟨⟨⟨⟨⟨⟨⟨x1, x2⟩, x0⟩, x3⟩, x4⟩, x5⟩, x6⟩, x7⟩ := x
  exact ⟨⟨x1, x2, x0⟩, x3, x4, x5, x6, x7⟩
noncomputable def baseOk (K : Frag) (P : Addr) : Bool := decide (specialIn K (.ref P) "__getattribute__" = some (some (.builtin "type.__getattribute__"))) && readsIn K P (.type "type") && (match findCls K (.ref P) (.type "type") "__init__" with
  | some (.val v) => decide (v = .builtin "ValueError.__init__")
  | _ => false) && handedIn (.builtin "ValueError.__init__")
theorem baseOk_spec {K : Frag} {P : Addr} (x : baseOk K P = true) : BaseK K P := by
  unfold baseOk at x
  simp only [Bool.and_eq_true, decide_eq_true_eq] at x
  obtain ⟨⟨⟨x1, x2⟩, x3⟩, x4⟩ := x
  refine ⟨x1, x2, ?_, x4⟩
  split at x3
  · rename_i v hv
    rw [hv, of_decide_eq_true x3]
  · cases x3
end

section
open PySem PySem.Calls PySem.W PyProof.Rows
variable {w : World} {hb : Heap}
noncomputable def strsV : List Value → Option (List Str)
  | [] => some []
  | .str x _ :: r => (strsV r).map (x :: ·)
  | _ :: _ => none
noncomputable def tupAt (h : Heap) (v : Value) : Option (List Str) := match v with
  | .ref t => (h.get? t).bind fun o => if decide (o.cls = .type "tuple") && o.dict.isNone && (o.slots.size == 0) then (match o.data with | .seq vs _ => strsV vs.toList | _ => none) else none
  | _ => none
theorem strsV_rd {h : Heap} : ∀ {vs : List Value} {l : List Str}, strsV vs = some l → RDs pw w [] h vs (l.map .str) []
  | [], l, e => by cases e; exact .nil
  | v :: vs, l, e => by
    cases v with
    | str x t =>
      obtain ⟨r, h1, rfl⟩ := Option.map_eq_some_iff.mp e
      exact .cons (as := []) (bs := []) (.str x t) (strsV_rd h1)
    | _ => cases e
theorem tupAt_rd {h : Heap} {v : Value} {l : List Str} (e : tupAt h v = some l) : RD pw w [] h v (.tuple (l.map .str)) [] := by
  cases v with
  | ref t =>
    obtain ⟨o, ho, e⟩ := Option.bind_eq_some_iff.mp e
    obtain ⟨hc, e⟩ := ifE e
    simp only [Bool.and_eq_true, decide_eq_true_eq, Option.isNone_iff_eq_none, beq_iff_eq] at hc
    obtain ⟨⟨h1, h2⟩, h3⟩ := hc
    obtain ⟨oc, od, dt, sl⟩ := o
    cases dt with
    | seq vs n =>
      have e : strsV vs.toList = some l := e
      obtain rfl : oc = .type "tuple" := h1
      obtain rfl : od = none := h2
      obtain rfl : sl = #[] := Array.eq_empty_of_size_eq_zero h3
      exact .tuple (vs := vs.toList) (n := n) ho (fun q => nomatch q) (strsV_rd e)
    | _ => cases e
  | _ => cases e
noncomputable def entriesOf (h : Heap) : List DictEntry → Option (List (Int × Str × List Str))
  | [] => some []
  | e :: r => match e.key with
    | .str k _ => (tupAt h e.val).bind fun l => (entriesOf h r).map fun t => (e.hash, k, l) :: t
    | _ => none
noncomputable def dictAt (h : Heap) (name : Str) : Option (List (Int × Str × List Str)) := match h.nsMap mainGlobals name with
  | some (.ref a) => (h.get? a).bind fun o => if decide (o.cls = .type "dict") && o.dict.isNone && (o.slots.size == 0) && !(a == sysModules) then (match o.data with | .dict es _ => entriesOf h es.toList | _ => none) else none
  | _ => none
theorem entries_rd {h : Heap} : ∀ {es : List DictEntry} {L : List (Int × Str × List Str)}, entriesOf h es = some L → (∀ p ∈ L, p.1 = hashStr w p.2.1) →
    ∃ kvs : List (Str × Value), Pairs (strKind pw w) es kvs ∧ (∀ e ∈ es, ∃ k, (strKind pw w).is k e.key = true ∧ e.hash = (strKind pw w).hash k) ∧ kvs.map (·.1) = L.map (·.2.1) ∧ RDs pw w [] h (kvs.map (·.2)) (L.map fun p => .tuple (p.2.2.map .str)) []
  | [], L, e, _ => by cases e; exact ⟨[], .nil, (fun _ q => nomatch q), rfl, .nil⟩
  | e :: r, L, he, hh => by
    unfold entriesOf at he
    split at he
    · rename_i k t hk
      obtain ⟨l, h1, he⟩ := Option.bind_eq_some_iff.mp he
      obtain ⟨T, h2, rfl⟩ := Option.map_eq_some_iff.mp he
      obtain ⟨kvs, q1, q2, q3, q4⟩ := entries_rd h2 fun p hp => hh p (.tail _ hp)
      have is : (strKind pw w).is k e.key = true := by rw [hk]; exact strKind_is pw w k t
      refine ⟨(k, e.val) :: kvs, .cons is rfl q1, fun x hx => ?_, by rw [List.map_cons, List.map_cons, q3], .cons (as := []) (bs := []) (tupAt_rd h1) q4⟩
      rcases List.mem_cons.mp hx with rfl | hx
      · exact ⟨k, is, hh _ (.head _)⟩
      · exact q2 x hx
    · cases he
theorem dictAt_rd {h : Heap} {name : Str} {L : List (Int × Str × List Str)} (e : dictAt h name = some L) (hh : ∀ p ∈ L, p.1 = hashStr w p.2.1) (hn : (L.map (·.2.1)).Nodup) :
    ∃ a, h.nsMap mainGlobals name = some (.ref a) ∧ RD pw w [] h (.ref a) (dictOf (L.map fun p => (p.2.1, .tuple (p.2.2.map .str)))) [a] := by
  unfold dictAt at e
  split at e
  · rename_i a ha
    obtain ⟨o, ho, e⟩ := Option.bind_eq_some_iff.mp e
    obtain ⟨hc, e⟩ := ifE e
    simp only [Bool.and_eq_true, decide_eq_true_eq, Option.isNone_iff_eq_none, beq_iff_eq, Bool.not_eq_true'] at hc
    obtain ⟨⟨⟨h1, h2⟩, h3⟩, h4⟩ := hc
    split at e
    · rename_i es ep hd
      obtain ⟨kvs, q1, q2, q3, q4⟩ := entries_rd (w := w) e hh
      refine ⟨a, ha, .dict (kvs := kvs) (as := []) ⟨o, es, ep, ho, ⟨h1, h2, Array.eq_empty_of_size_eq_zero h3⟩, hd, fun x hx => q2 x (Array.mem_toList_iff.mpr hx), q1, by rw [q3]; exact hn⟩ h4 (by rw [q3, List.map_map]; rfl) (by rw [List.map_map]; exact q4)⟩
    · cases e
  · cases e
noncomputable def intAt (h : Heap) (name : Str) : Option Int := match h.nsMap mainGlobals name with
  | some (.int i _) => some i
  | _ => none
noncomputable def strAt (h : Heap) (name : Str) : Option Str := match h.nsMap mainGlobals name with
  | some (.str x _) => some x
  | _ => none
theorem intAt_data {h : Heap} {name : String} {i : Int} (hg : h.isNs mainGlobals = true) (e : intAt h (Str.ofString name) = some i) : GData pw w h name (.int i) := by
  unfold intAt at e
  split at e
  · rename_i j t hv
    cases e
    exact ⟨_, [], .inl ⟨_, .of_isNs hg, hv⟩, .int _ t, rfl⟩
  · cases e
theorem strAt_data {h : Heap} {name : String} {x : Str} (hg : h.isNs mainGlobals = true) (e : strAt h (Str.ofString name) = some x) (hw : wf (.str x) = true) : GData pw w h name (.str x) := by
  unfold strAt at e
  split at e
  · rename_i j t hv
    cases e
    exact ⟨_, [], .inl ⟨_, .of_isNs hg, hv⟩, .str _ t, hw⟩
  · cases e
noncomputable def frag01 (h : Heap) : Frag := fragOf h [addrOf h "BadPlots", addrOf h "BadRows", addrOf h "PlotError", nsOf h (addrOf h "BadPlots"), nsOf h (addrOf h "BadRows"), nsOf h (addrOf h "PlotError"), cStatics]
noncomputable def check01 (h : Heap) (K : Frag) (BP BR PE : Addr) : Bool :=
  h.isNs mainGlobals && excOk h "BadPlots" (.ref PE :: veMro) && excOk h "BadRows" (.ref PE :: veMro) && excOk h "PlotError" veMro && (h.nsMap (nsOf h PE) "__init__").isNone && fnCls h (nsOf h BP) && fnCls h (nsOf h BR) &&
  clsOk K BP PE && clsOk K BR PE && errOk K BP && errOk K BR && baseOk K PE && decide (subIn K (.ref BP) (.ref BP) = some true) && decide (subIn K (.ref BR) (.ref BP) = some false) && decide (subIn K (.ref BP) (.type "ValueError") = some true) && decide (subIn K (.ref BR) (.type "ValueError") = some true) &&
  decide (typeIn K (.ref BP) = some (.type "type")) && decide (BP ≠ BR) && decide (PE ≠ BP)
noncomputable abbrev Obs01 : Type := Bool × Option FnShape × Option FnShape × Option (List (Int × Str × List Str)) × List (Option Int) × Option Str
noncomputable def obs01 (s : Shared) : Obs01 :=
  (check01 s.heap (frag01 s.heap) (addrOf s.heap "BadPlots") (addrOf s.heap "BadRows") (addrOf s.heap "PlotError"), s.heap.shapeAt (nsOf s.heap (addrOf s.heap "BadPlots")) (Str.ofString "__init__"), s.heap.shapeAt (nsOf s.heap (addrOf s.heap "BadRows")) (Str.ofString "__init__"),
   dictAt s.heap (Str.ofString "SHAPES"), [intAt s.heap (Str.ofString "MOST_LETTERS"), intAt s.heap (Str.ofString "MOST_PLOTS"), intAt s.heap (Str.ofString "MOST_ROWS"), intAt s.heap (Str.ofString "MOST_NUMBER")], strAt s.heap (Str.ofString "LETTERS"))
noncomputable def tableW (w : World) : List (Int × Str × List Str) := tableS.map fun p => (hashStr w (Str.ofString p.1), Str.ofString p.1, p.2.map fun t => Str.ofString t.word)
noncomputable def val01 (w : World) : Obs01 := (true, some (initShape "BadPlots.__init__" 2), some (initShape "BadRows.__init__" 3), some (tableW w), [some 8, some 12, some 60, some great], some abcS)
inductive Says01 (w : World) (h : Heap) : Prop
  | mk (K : Frag) (BP BR PE : Addr) (V : ErrEnv h K BP BR PE) (XP : ExcG h "BadPlots" BP) (XR : ExcG h "BadRows" BR) (gS : GData pw w h "SHAPES" shapesP) (g1 : GData pw w h "MOST_LETTERS" (.int 8)) (g2 : GData pw w h "MOST_PLOTS" (.int 12)) (g3 : GData pw w h "MOST_ROWS" (.int 60)) (g4 : GData pw w h "MOST_NUMBER" (.int great)) (g5 : GData pw w h "LETTERS" (.str abcS)) : Says01 w h
theorem gname {h : Heap} {x : String} {v : Value} (hg : h.isNs mainGlobals = true) (e : h.nsMap mainGlobals (Str.ofString x) = some v) : GName h x v := .inl ⟨_, .of_isNs hg, e⟩
theorem exc_g {h : Heap} {K : Frag} {x : String} {C PE : Addr} {i : Nat} (hg : h.isNs mainGlobals = true) (X : K.In h) (hx : ExcSeen h (Str.ofString x) (.ref PE :: veMro)) (hE : ExcSeen h (Str.ofString "PlotError") veMro) (hC : h.nsMap mainGlobals (Str.ofString x) = some (.ref C)) (hP : h.nsMap mainGlobals (Str.ofString "PlotError") = some (.ref PE))
    (hi : InitSeen h (nsOf h C) i) (hni : h.nsMap (nsOf h PE) "__init__" = none) (kC : ClsK K C PE) (kP : BaseK K PE) {q1 q2 q3 q4 q5 q6 q7 q8 q9 q10 : Pos} (hbody : mthB pw i 0 = [.Expr (.Call (.Attribute (.Name (Str.ofString "PlotError") q1) (Str.ofString "__init__") q2) [.Name (Str.ofString "self") q3, .Name (Str.ofString "words") q4] [] q5) q6,
      .Assign [.Attribute (.Name (Str.ofString "self") q7) (Str.ofString "at") q8] (.Name (Str.ofString "at") q9) q10]) (hloc : ∀ x ∈ ["self", "words", "at"], (mthS pw i 0).names.lookup (Str.ofString x) = some .local) (hgl : isGlob (mthS pw i 0) "PlotError" = true) (hline : (q2.endLine == q5.line) = true) : ExcG h x C := by
  obtain ⟨C', N, nm, q, bs, hdct, sn, sub, ab, col, dd, k0, k1, k2, k3, k5, e1, e2, e3⟩ := hx
  rw [hC] at e1
  cases e1
  obtain ⟨PE', N', nm', q', bs', hdct', sn', sub', ab', col', dd', l0, l1, l2, l3, l5, f1, f2, f3⟩ := hE
  rw [hP] at f1
  cases f1
  have hN : nsOf h C = N := by unfold nsOf; rw [e2]
  have hN' : nsOf h PE = N' := by unfold nsOf; rw [f2]
  rw [hN] at hi
  rw [hN'] at hni
  obtain ⟨f, o, g1, g2, g3, D⟩ := hi
  rw [hbody] at D
  exact ⟨K, PE, f, N, mthS pw i 0, _, _, o, q1, q2, q3, q4, q5, q6, q7, q8, q9, q10, nm, q, bs, hdct, sn, sub, ab, col, dd, k0, k1, k2, k3, k5, gname hg hC, e2, e3, g1, g2, g3, D, hloc, hgl, gname hg hP, hline, X, kP, kC, .own f2 f3 hni .base, by simp [veMro]⟩
theorem cls_e {h : Heap} {x : Str} {tl : List Value} {C : Addr} (hx : ExcSeen h x tl) (hC : h.nsMap mainGlobals x = some (.ref C)) : ClsE h C tl := by
  obtain ⟨C', N, nm, q, bs, hdct, sn, sub, ab, col, dd, k0, k1, k2, k3, k5, e1, e2, e3⟩ := hx
  rw [hC] at e1
  cases e1
  exact ⟨nm, q, N, bs, hdct, sn, sub, ab, col, dd, k0, k1, k2, k3, k5, e2⟩
theorem seen_addr {h : Heap} {x : Str} {tl : List Value} (hx : ExcSeen h x tl) : h.nsMap mainGlobals x = some (.ref (addrOf h x)) := by
  obtain ⟨C', N, nm, q, bs, hdct, sn, sub, ab, col, dd, k0, k1, k2, k3, k5, e1, e2, e3⟩ := hx
  rw [addr_of e1]; exact e1
theorem says_of (w : World) (s : Shared) (e : obs01 s = val01 w) : Says01 w s.heap := by
  have e1 : check01 _ _ _ _ _ = true := congrArg Prod.fst e
  have e2 := congrArg (fun x => x.2.1) e
  have e3 := congrArg (fun x => x.2.2.1) e
  have e4 := congrArg (fun x => x.2.2.2.1) e
  have e5 := congrArg (fun x => x.2.2.2.2.1) e
  have e6 := congrArg (fun x => x.2.2.2.2.2) e
  dsimp only [obs01, val01] at e2 e3 e4 e5 e6
  unfold check01 at e1
  simp only [Bool.and_eq_true, decide_eq_true_eq, Option.isNone_iff_eq_none, ne_eq] at e1
  obtain ⟨⟨⟨⟨⟨⟨⟨⟨⟨⟨⟨⟨⟨⟨⟨⟨⟨⟨c1, c2⟩, c3⟩, c4⟩, c5⟩, c6⟩, c7⟩, c8⟩, c9⟩, c10⟩, c11⟩, c12⟩, c13⟩, c14⟩, c15⟩, c16⟩, c17⟩, c18⟩, c19⟩ := e1
  have X : (frag01 s.heap).In s.heap := fragOf_in _ _
  have s2 := excOk_seen c2
  have s3 := excOk_seen c3
  have s4 := excOk_seen c4
  have n2 := seen_addr s2
  have n3 := seen_addr s3
  have n4 := seen_addr s4
  simp only [List.cons.injEq, and_true] at e5
  obtain ⟨i1, i2, i3, i4⟩ := e5
  obtain ⟨a, ha, hr⟩ := dictAt_rd (w := w) e4 (fun p hp => by obtain ⟨q, _, rfl⟩ := List.mem_map.mp hp; rfl) (by show (tableS.map fun p => Str.ofString p.1).Nodup; decide +kernel)
  refine ⟨frag01 s.heap, addrOf s.heap "BadPlots", addrOf s.heap "BadRows", addrOf s.heap "PlotError", ⟨X, gname c1 n2, gname c1 n3, gname c1 n4, cls_e s2 n2, cls_e s3 n3, cls_e s4 n4, clsOk_spec c8, clsOk_spec c9, errOk_spec c10, errOk_spec c11, c13, c14, c15, c16, c17, c18, c19⟩,
    exc_g c1 X s2 s4 n2 n4 (init_seen e2 c6 (by decide +kernel)) c5 (clsOk_spec c8) (baseOk_spec c12) rfl (by decide +kernel) (by decide +kernel) rfl, exc_g c1 X s3 s4 n3 n4 (init_seen e3 c7 (by decide +kernel)) c5 (clsOk_spec c9) (baseOk_spec c12) rfl (by decide +kernel) (by decide +kernel) rfl,
    ⟨.ref a, [a], gname c1 ha, hr, by decide +kernel⟩, intAt_data c1 i1, intAt_data c1 i2, intAt_data c1 i3, intAt_data c1 i4, strAt_data c1 e6 (by decide +kernel)⟩
theorem GData.up' {h h' : Heap} {x : String} {d : PyData} (g : Grow h h') (a : GData pw w h x d) : GData pw w h' x d :=
  let ⟨v, as, n, r, c⟩ := a
  ⟨v, as, n.up g, r.grow g, c⟩
theorem ExcG.up {h h' : Heap} {x : String} {C : Addr} (g : Grow h h') (a : ExcG h x C) : ExcG h' x C := by
  obtain ⟨K, P', fI, N, sI, bm, mN, oI, q1, q2, q3, q4, q5, q6, q7, q8, q9, q10, nm, q, bs, hdct, sn, sub, ab, col, dd, k0, k1, k2, k3, k5, gn, hC, hnN, hi, hf, hfc, D, hloc, hgl, hgn, hline, X, BK, CK, OT, hbase⟩ := a
  exact ⟨K, P', fI, N, sI, bm, mN, oI, q1, q2, q3, q4, q5, q6, q7, q8, q9, q10, nm, q, bs, hdct, sn, sub, ab, col, dd, k0, k1, k2, k3, k5, gn.up g, g _ _ hC, hnN.keeps g, hi, g _ _ hf, hfc, D.up g, hloc, hgl, hgn.up g, hline, X.keeps g, BK, CK, OT.keeps g, hbase⟩
theorem ErrEnv.up {h h' : Heap} {K : Frag} {BP BR PE : Addr} (g : Grow h h') (V : ErrEnv h K BP BR PE) : ErrEnv h' K BP BR PE :=
  ⟨V.X.keeps g, V.gP.up g, V.gR.up g, V.gE.up g, V.cP.grow g, V.cR.grow g, V.cE.grow g, V.kP, V.kR, V.eP, V.eR, V.sP, V.sR, V.vP, V.vR, V.tB, V.ne, V.neE⟩
theorem says_keeps (w : World) (h h' : Heap) (x : Says01 w h) (g : ∀ b o, h.get? b = some o → h'.get? b = some o) : Says01 w h' := by
  obtain ⟨K, BP, BR, PE, V, XP, XR, gS, g1, g2, g3, g4, g5⟩ := x
  exact ⟨K, BP, BR, PE, V.up g, XP.up g, XR.up g, gS.up' g, g1.up' g, g2.up' g, g3.up' g, g4.up' g, g5.up' g⟩
noncomputable def hook01 : Hook := ⟨Obs01, obs01, val01, Says01, says_of, says_keeps⟩
end

end Mine
open PySem PySem.W PyProof.Rows Mine
set_option maxRecDepth 100000 in
set_option maxHeartbeats 8000000 in
theorem PySem.Challenge.cw_uf010022_01_holds : PySem.Challenge.rw_uf010022_01.Holds := by
  w_on; refine holds_law (by decide +kernel) fun said => ?_; o_head Mine.hook01
  case hw => w_witness2
  intro w s₀ s₁ mg mb G Y fa o pm cd doc dV kV ho hd hcd hD hmg hg args vals as hpre hlay hrd hwl hlo
  refine Ground.open G ?_
  intro T TB D TE TW
  have hmg' : mg (Str.ofString "law") = some (.ref fa) := hmg
  clear ho hd hcd hD hmg
  have D__law_at : DefAt s₁.heap "_law_at" (fnS pw 18) ["_law_script", "_law_k"] (fnB pw 18) := defTop T 6 18 (by kernel_rfl) (by kernel_rfl) (by kernel_rfl) (by kernel_rfl) (by decide +kernel)
  have D__law_called : DefAt s₁.heap "_law_called" (fnS pw 19) ["_law_cell", "_law_k", "_law_signs"] (fnB pw 19) := defTop T 7 19 (by kernel_rfl) (by kernel_rfl) (by kernel_rfl) (by kernel_rfl) (by decide +kernel)
  have D__law_plots : DefAt s₁.heap "_law_plots" (fnS pw 20) ["_law_script"] (fnB pw 20) := defTop T 8 20 (by kernel_rfl) (by kernel_rfl) (by kernel_rfl) (by kernel_rfl) (by decide +kernel)
  have D__law_names : DefAt s₁.heap "_law_names" (fnS pw 21) ["_law_script", "_law_plots_here"] (fnB pw 21) := defTop T 9 21 (by kernel_rfl) (by kernel_rfl) (by kernel_rfl) (by kernel_rfl) (by decide +kernel)
  have D__law_row : DefAt s₁.heap "_law_row" (fnS pw 22) ["_law_cell", "_law_plots_here", "_law_names_here", "_law_size"] (fnB pw 22) := defTop T 10 22 (by kernel_rfl) (by kernel_rfl) (by kernel_rfl) (by kernel_rfl) (by decide +kernel)
  have D_is_whole : DefAt s₁.heap "is_whole" (fnS pw 11) ["thing"] (fnB pw 11) := defTop T 0 11 (by kernel_rfl) (by kernel_rfl) (by kernel_rfl) (by kernel_rfl) (by decide +kernel)
  have D_is_name : DefAt s₁.heap "is_name" (fnS pw 12) ["thing"] (fnB pw 12) := defTop T 1 12 (by kernel_rfl) (by kernel_rfl) (by kernel_rfl) (by kernel_rfl) (by decide +kernel)
  have D_need_plots : DefAt s₁.heap "need_plots" (fnS pw 13) ["plots"] (fnB pw 13) := defTop T 2 13 (by kernel_rfl) (by kernel_rfl) (by kernel_rfl) (by kernel_rfl) (by decide +kernel)
  have D_fits : DefAt s₁.heap "fits" (fnS pw 14) ["part", "sort", "names", "size"] (fnB pw 14) := defTop T 3 14 (by kernel_rfl) (by kernel_rfl) (by kernel_rfl) (by kernel_rfl) (by decide +kernel)
  have D_is_row : DefAt s₁.heap "is_row" (fnS pw 15) ["row", "names", "size"] (fnB pw 15) := defTop T 4 15 (by kernel_rfl) (by kernel_rfl) (by kernel_rfl) (by kernel_rfl) (by decide +kernel)
  have D_need : DefAt s₁.heap "need" (fnS pw 16) ["plots", "rows"] (fnB pw 16) := defTop T 5 16 (by kernel_rfl) (by kernel_rfl) (by kernel_rfl) (by kernel_rfl) (by decide +kernel)
  have D__law_whole : DefAt s₁.heap "_law_whole" (fnS pw 23) ["_law_thing"] (fnB pw 23) := defTop T 11 23 (by kernel_rfl) (by kernel_rfl) (by kernel_rfl) (by kernel_rfl) (by decide +kernel)
  have D__law_name : DefAt s₁.heap "_law_name" (fnS pw 24) ["_law_thing"] (fnB pw 24) := defTop T 12 24 (by kernel_rfl) (by kernel_rfl) (by kernel_rfl) (by kernel_rfl) (by decide +kernel)
  have D__law_bad_pair : DefAt s₁.heap "_law_bad_pair" (fnS pw 25) ["_law_plots_here"] (fnB pw 25) := defTop T 13 25 (by kernel_rfl) (by kernel_rfl) (by kernel_rfl) (by kernel_rfl) (by decide +kernel)
  have D__law_good_row : DefAt s₁.heap "_law_good_row" (fnS pw 26) ["_law_row_here", "_law_known", "_law_size"] (fnB pw 26) := defTop T 14 26 (by kernel_rfl) (by kernel_rfl) (by kernel_rfl) (by kernel_rfl) (by decide +kernel)
  have D__law_bad_row : DefAt s₁.heap "_law_bad_row" (fnS pw 27) ["_law_plots_here", "_law_rows"] (fnB pw 27) := defTop T 15 27 (by kernel_rfl) (by kernel_rfl) (by kernel_rfl) (by kernel_rfl) (by decide +kernel)
  have D__law_sign : DefAt s₁.heap "_law_sign" (fnS pw 28) ["_law_cell"] (fnB pw 28) := defTop T 16 28 (by kernel_rfl) (by kernel_rfl) (by kernel_rfl) (by kernel_rfl) (by decide +kernel)
  have D__law_pair : DefAt s₁.heap "_law_pair" (fnS pw 29) ["_law_cell", "_law_plots_here", "_law_at_here"] (fnB pw 29) := defTop T 17 29 (by kernel_rfl) (by kernel_rfl) (by kernel_rfl) (by kernel_rfl) (by decide +kernel)
  have D__law_odd_row : DefAt s₁.heap "_law_odd_row" (fnS pw 30) ["_law_cell", "_law_plots_here", "_law_names_here", "_law_size"] (fnB pw 30) := defTop T 18 30 (by kernel_rfl) (by kernel_rfl) (by kernel_rfl) (by kernel_rfl) (by decide +kernel)
  have D__law_changed : DefAt s₁.heap "_law_changed" (fnS pw 31) ["_law_script", "_law_plots_here", "_law_rows", "_law_names_here"] (fnB pw 31) := defTop T 19 31 (by kernel_rfl) (by kernel_rfl) (by kernel_rfl) (by kernel_rfl) (by decide +kernel)
  have D__law_said : DefAt s₁.heap "_law_said" (fnS pw 32) ["_law_kind", "_law_plots_here", "_law_rows"] (fnB pw 32) := defTop T 20 32 (by kernel_rfl) (by kernel_rfl) (by kernel_rfl) (by kernel_rfl) (by decide +kernel)
  have D_law : DefAt s₁.heap "law" (fnS pw 33) ["_law_script"] (fnB pw 33) := defTop T 21 33 (by kernel_rfl) (by kernel_rfl) (by kernel_rfl) (by kernel_rfl) (by decide +kernel)
  have B : Bui s₁.heap := ⟨bTop T (by decide +kernel) (by decide +kernel), bTop T (by decide +kernel) (by decide +kernel), bTop T (by decide +kernel) (by decide +kernel), bTop T (by decide +kernel) (by decide +kernel), bTop T (by decide +kernel) (by decide +kernel), bTop T (by decide +kernel) (by decide +kernel), bTop T (by decide +kernel) (by decide +kernel), bTop T (by decide +kernel) (by decide +kernel)⟩
  have H_enumerate : GName s₁.heap "enumerate" (.type "enumerate") := bTop T (by decide +kernel) (by decide +kernel)
  have H_zip : GName s₁.heap "zip" (.type "zip") := bTop T (by decide +kernel) (by decide +kernel)
  have H_all : GName s₁.heap "all" (.builtin "all") := bTop T (by decide +kernel) (by decide +kernel)
  have H_abs : GName s₁.heap "abs" (.builtin "abs") := bTop T (by decide +kernel) (by decide +kernel)
  have H_max : GName s₁.heap "max" (.builtin "max") := bTop T (by decide +kernel) (by decide +kernel)
  have H_ValueError : GName s₁.heap "ValueError" (.type "ValueError") := bTop T (by decide +kernel) (by decide +kernel)
  have bs : Base pw [] s₁.heap s₁.heap := base_of T (by decide +kernel) rfl
  have Y : Says01 w s₁.heap := Y
  obtain ⟨K, BP, BR, PE, V, XP, XR, gS, g1, g2, g3, g4, g5⟩ := Y
  obtain ⟨m1, h1, e1⟩ := at_ok (w := w) B D__law_at
  obtain ⟨m2, h2, e2⟩ := called_ok (w := w) B D__law_called
  obtain ⟨m3, h3, e3⟩ := plots_ok B D__law_plots h1 e1 h2 e2
  obtain ⟨m4, h4, e4⟩ := names_ok B D__law_names h1 e1 h2 e2
  obtain ⟨m5, h5, e5⟩ := row_ok (w := w) B D__law_row
  obtain ⟨m6, h6, e6⟩ := whole1_ok (w := w) B D_is_whole
  obtain ⟨m7, h7, e7⟩ := whole2_ok (w := w) B D__law_whole
  obtain ⟨m8, h8, e8⟩ := name1_ok B H_all g5 g1 D_is_name
  obtain ⟨m9, h9, e9⟩ := name2_ok (w := w) B D__law_name
  obtain ⟨m10, h10, e10⟩ := badpair_ok B H_enumerate D__law_bad_pair h9 e9
  obtain ⟨m11, h11, e11⟩ := needplots_ok XP g2 B H_enumerate D_need_plots h8 e8
  obtain ⟨m12, h12, e12⟩ := fits_ok B g4 D_fits h8 e8 h6 e6
  obtain ⟨m13, h13, e13⟩ := isrow_ok B H_zip H_all gS D_is_row h12 e12
  obtain ⟨m14, h14, e14⟩ := goodrow_ok B H_zip H_abs D__law_good_row h9 e9 h7 e7
  obtain ⟨m15, h15, e15⟩ := badrow_ok B H_enumerate D__law_bad_row h14 e14
  obtain ⟨m16, h16, e16⟩ := need_ok XR g3 B H_enumerate D_need h11 e11 h13 e13
  obtain ⟨m17, h17, e17⟩ := said_ok V B H_ValueError D__law_said h16 e16
  obtain ⟨m18, h18, e18⟩ := sign_ok (w := w) B D__law_sign
  obtain ⟨m19, h19, e19⟩ := pair_ok B D__law_pair h18 e18
  obtain ⟨m20, h20, e20⟩ := oddrow_ok B D__law_odd_row h18 e18
  obtain ⟨m21, h21, e21⟩ := changed_ok B H_max D__law_changed h1 e1 h19 e19 h20 e20
  obtain ⟨m22, h22, e22⟩ := law_ok B D_law h1 e1 h3 e3 h4 e4 h5 e5 h21 e21 h10 e10 h15 e15 h7 e7 h17 e17
  wrow_args hpre hlay hrd hwl hlo
  rename_i l _ _ _ _ _ _ _ _ _ _ _ _ hwell _ _ _ hlen _
  refine law_run1 D_law h22 (e22 l) bs T.g hmg' hwell (by omega) (by decide) fun s' k => ?_
  obtain ⟨h', tk, rfl, gr⟩ := k
  exact GoodW.toG ⟨.inl ⟨.bool true, .bool true, [], rfl, fun _ => rfl, .bool true, by wrow_post, fun _ => ⟨.nil, fun _ q => nomatch q⟩⟩, gr, rfl, hg⟩
