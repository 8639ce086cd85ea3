import PyProof.Rows.All
import PyProof.Fits
import PyProof.Rules2
import PyProof.AssignAttr
import PyProof.FactsAll.str_0
import PyProof.Lay0
import PyProof.FactsLen
import PyProof.Methods
import PyProof.FactsAll.list_0
import PyProof.FactsAll.list_3
import PyProof.FactsAll.dict_0
import PyProof.FactsAll.dict_3
import PyProof.FactsAll.dict_4
import PyProof.TupleIter
import PyProof.AutoIntOps
import PyProof.NoPylong
import PyProof.Rules3
import PyProof.ListIndex
import PyProof.SliceList
import PyProof.ForAny
import PyProof.CallRoads
import PyProof.CallType
import PyProof.Cells
import PyProof.StrWalks
import PyProof.CompFree
import PyProof.PureInt
import PyProof.Conv_int_bool
import PyProof.DefCall
import PyProof.ListOps
import PyProof.MeetsIn
import PyProof.DictKinds
import PyProof.DictList
import PyProof.MeetsDictList
import PyProof.DictRoads
import PyProof.DictTruth
import PyProof.DictStraight
import PyProof.DictTable
import PyProof.FactsAll.dict_values_1
import PyProof.DictValues
import PyProof.DictWalks
import PyProof.EnumMake
import PyProof.NeData
import PyProof.StrLaws
import PyProof.SliceStr2
import PyProof.StrOps
import PyProof.StrOps2
import PyProof.StrLawsJoin
import PyProof.WalksMore
import PyProof.RangeFor
import PyProof.InstLoad
import PyProof.IsInstance
import PyProof.IsInstanceH
import PyProof.IsiNone
import PyProof.ListNew
import PyProof.ListCopy
import PyProof.ListIndexNeg
import PyProof.ListRange
import PyProof.ListTruth
import PyProof.ObjNew
import PyProof.P3In
import PyProof.Rows.TupSub
import PyProof.ZipIter
import PyProof.WalksPairs
import PyProof.Truth
import PyProof.StrCalls2
import PyProof.Rows.AttrNodeAny
import PyProof.Rows.CellsKey
import PyProof.WalksEnum
import PyProof.Rows.RuleB_floordiv
import PyProof.Rows.RuleB_mod
import PyProof.Rows.StrTemp
import PyProof.TupleOps
import PyProof.Rows.TupMore
import PyProof.SliceMore
import PyProof.RulesAssignMore
import PyProof.Rows.SortWalk
import PyProof.Rows.CallKwBuiltin
import PyProof.Rows.SortRev
import PyProof.Rows.PlainObj
import PyProof.Rows.ExtendIn
import Open.Line
import Wide.All
import Lean
import PySem.Challenge.RW_uf010022_05
set_option Elab.async false
set_option linter.all false
set_option autoImplicit false
set_option compiler.extract_closed false
set_option genSizeOf false
set_option bootstrap.genMatcherCode false
set_option maxRecDepth 100000
set_option maxHeartbeats 4000000
set_option linter.unusedSimpArgs false
set_option linter.unusedVariables false
namespace Mine
open PySem PySem.Calls

section
theorem no {α : Type} {z : α} {P : Prop} (h : none = some z) : P := by contradiction
theorem si {α : Type} {a b : α} (h : some a = some b) : a = b := Option.some.inj h
theorem bindI {α β : Type} {o : Option α} {f : α → Option β} {z : β} {P : Prop} (k : ∀ a, o = some a → f a = some z → P) (h : o.bind f = some z) : P := by
  induction o with
  | none => exact no h
  | some a => exact k a rfl h
theorem ifI {α : Type} {c : Prop} [Decidable c] {o : Option α} {z : α} {P : Prop} (k : c → o = some z → P) (h : (if c then o else none) = some z) : P := by
  by_cases hc : c
  · rw [if_pos hc] at h; exact k hc h
  · rw [if_neg hc] at h; exact no h
inductive BindI {α β : Type} (o : Option α) (f : α → Option β) (z : β) : Prop
  | mk (a : α) (h : o = some a) (k : f a = some z) : BindI o f z
theorem bindE {α β : Type} {o : Option α} {f : α → Option β} {z : β} (h : o.bind f = some z) : BindI o f z := by
  induction o with
  | none => exact no h
  | some a => exact ⟨a, rfl, h⟩
inductive MapI {α β : Type} (o : Option α) (f : α → β) : β → Prop
  | mk (a : α) (h : o = some a) : MapI o f (f a)
theorem mapE {α β : Type} {o : Option α} {f : α → β} {z : β} (h : o.map f = some z) : MapI o f z := by
  induction o with
  | none => exact no h
  | some a => (have e := si h; subst e; clear h); exact ⟨a, rfl⟩

noncomputable abbrev Grow (h h' : Heap) : Prop := ∀ b o, h.get? b = some o → h'.get? b = some o
theorem Grow.refl (h : Heap) : Grow h h := fun _ _ e => e
theorem Grow.trans {h₁ h₂ h₃ : Heap} (x : Grow h₁ h₂) (y : Grow h₂ h₃) : Grow h₁ h₃ := fun b o e => y b o (x b o e)
theorem Grow.push (h : Heap) (o : Obj) : Grow h (h.push o) := fun _ _ e => Heap.get?_push_of_some o e
theorem keeps_refl (s : Shared) : Keeps s s := ⟨s.heap, s.toks, rfl, Grow.refl _⟩
theorem keeps_trans {s₁ s₂ s₃ : Shared} (x : Keeps s₁ s₂) (y : Keeps s₂ s₃) : Keeps s₁ s₃ := by
  obtain ⟨h, t, rfl, k⟩ := x
  obtain ⟨h', t', rfl, k'⟩ := y
  exact ⟨h', t', rfl, Grow.trans k k'⟩
theorem keeps_toks (s : Shared) (t : Nat) : Keeps s { s with toks := t } := ⟨s.heap, t, rfl, Grow.refl _⟩
theorem keeps_push (s : Shared) (o : Obj) : Keeps s { s with heap := s.heap.push o } := ⟨s.heap.push o, s.toks, rfl, Grow.push _ _⟩
theorem keeps_grow {s s' : Shared} (x : Keeps s s') : Grow s.heap s'.heap := by obtain ⟨h, t, rfl, k⟩ := x; exact k
theorem get?_size_none (h : Heap) {a : Addr} (ha : h.objs.size ≤ a) : h.get? a = none := by
  cases e : h.get? a with
  | none => rfl
  | some o => exact absurd (Heap.lt_size e) (Nat.not_lt.mpr ha)

noncomputable abbrev lstObj (vs : List Value) (n : Nat) : Obj := { cls := .type "list", dict := none, data := .seq vs.toArray n, slots := #[] }
noncomputable abbrev tupObj (vs : List Value) (n : Nat) : Obj := { cls := .type "tuple", dict := none, data := .seq vs.toArray n, slots := #[] }
noncomputable def Tup (o : Obj) : Prop := ∃ vs k, o = tupObj vs k
noncomputable def dictOf (xs : List (Str × PyData)) : PyData := .dict (xs.map fun p => (.str p.1, p.2))

inductive IAt (h : Heap) (a dx C : Addr) (m : Str → Option Value) : Prop
  | mk (o : Obj) (h1 : h.get? a = some o) (h2 : o.cls = .ref C) (h3 : ∀ c, o.data ≠ .cls c) (h4 : o.dict = some dx) (h5 : dx ≠ a) (h6 : h.Ns1 dx m) : IAt h a dx C m
theorem IAt.kept {h h' : Heap} {a dx C : Addr} {m : Str → Option Value} (i : IAt h a dx C m) (k1 : ∀ o, h.get? a = some o → h'.get? a = some o) (k2 : ∀ o, h.get? dx = some o → h'.get? dx = some o) : IAt h' a dx C m := by
  obtain ⟨o, h1, h2, h3, h4, h5, h6⟩ := i
  exact ⟨o, k1 o h1, h2, h3, h4, h5, h6.at k2⟩
theorem IAt.inst {h : Heap} {a dx C : Addr} {m : Str → Option Value} (i : IAt h a dx C m) : h.Inst a C m := by
  obtain ⟨o, h1, h2, h3, h4, h5, h6⟩ := i
  exact ⟨o, h1, h2, h3, .inr ⟨dx, h4, h5, h6⟩⟩
theorem IAt.alive {h : Heap} {a dx C : Addr} {m : Str → Option Value} (i : IAt h a dx C m) : ∀ b ∈ [a, dx], ∃ o, h.get? b = some o ∧ ¬ Tup o := by
  obtain ⟨o, h1, h2, h3, h4, h5, o', es, ep, g1, g2, _⟩ := i
  intro b hb
  simp only [List.mem_cons, List.not_mem_nil, or_false] at hb
  rcases hb with rfl | rfl
  · refine ⟨o, h1, ?_⟩
    rintro ⟨vs, k, rfl⟩; cases h2
  · refine ⟨o', g1, ?_⟩
    rintro ⟨vs, k, rfl⟩; cases g2
structure StF where
  told : PyData
  opened : Int
  given : PyData
  standing : PyData
  held : List (Str × Nat)
  worth : List (Int × Int)
noncomputable def storeD (C V p : Addr) (f : StF) : PyData :=
  .dict [(.tuple [.int C, .int V, .int p], .tuple [f.told, .int f.opened, f.given, f.standing, .tuple (f.held.map fun q => .tuple [.str q.1, .int q.2]), .tuple (f.worth.map fun q => .tuple [.int q.1, .int q.2])])]
noncomputable def valD (V : Addr) (x y : Int) : PyData := .dict [(.int V, .tuple [.int x, .int y])]
noncomputable def recD (C : Addr) (rs : List (Str × Addr)) (fs : List (Str × PyData)) : PyData := .dict [(.list (.int C :: rs.map fun q => .tuple [.str q.1, .int q.2]), .dict (fs.map fun p => (.str p.1, p.2)))]
noncomputable def valNames : List Str := ["amount", "opening"]
noncomputable def storeNames : List Str := ["plots", "told", "opened", "given", "standing", "held"]
inductive ValAt (h : Heap) (V b db : Addr) (x y : Int) : Prop
  | mk (m : Str → Option Value) (t u : Tok) (h1 : IAt h b db V m) (h2 : m "amount" = some (.int x t)) (h3 : m "opening" = some (.int y u)) (h4 : Within m valNames) : ValAt h V b db x y
theorem ValAt.kept {h h' : Heap} {V b db : Addr} {x y : Int} (i : ValAt h V b db x y) (k : ∀ c ∈ [b, db], ∀ o, h.get? c = some o → h'.get? c = some o) : ValAt h' V b db x y := by
  obtain ⟨m, t, u, i, r1, r2, r3⟩ := i
  exact ⟨m, t, u, i.kept (k b (by simp)) (k db (by simp)), r1, r2, r3⟩
section
variable (prog : Program) (w : World)
structure StoreAt (h : Heap) (a dx C V p hd : Addr) (pool : List (Addr × Addr)) (f : StF) (vs : List Value) (m : Str → Option Value) (ks : List (Str × Value)) : Prop where
  obj : IAt h a dx C m
  held : m "held" = some (.ref hd)
  opened : ∃ t, m "opened" = some (.int f.opened t)
  plots : m "plots" = some (.ref p)
  three : [m "told", m "given", m "standing"] = vs.map some
  names : Within m storeNames
  dict : h.DictOf (strKind prog w) hd ks
  mods : (hd == sysModules) = false
  keys : ks.map (·.1) = f.held.map (·.1)
  vals : ks.map (·.2) = f.held.map fun q => .ref (pool.getD q.2 (0, 0)).1
  bound : ∀ q ∈ f.held, q.2 < pool.length
  len : pool.length = f.worth.length
  each : ∀ (i : Nat) (b db : Addr) (x y : Int), pool[i]? = some (b, db) → f.worth[i]? = some (x, y) → ValAt h V b db x y
noncomputable def footS (a dx hd : Addr) (pool : List (Addr × Addr)) : List Addr := a :: dx :: hd :: pool.flatMap fun q => [q.1, q.2]
variable {prog w}
theorem StoreAt.kept {h h' : Heap} {a dx C V p hd : Addr} {pool : List (Addr × Addr)} {f : StF} {vs : List Value} {m : Str → Option Value} {ks : List (Str × Value)} (i : StoreAt prog w h a dx C V p hd pool f vs m ks)
    (k : ∀ c ∈ footS a dx hd pool, ∀ o, h.get? c = some o → h'.get? c = some o) : StoreAt prog w h' a dx C V p hd pool f vs m ks :=
  { i with
    obj := i.obj.kept (k a (by simp [footS])) (k dx (by simp [footS]))
    dict := by obtain ⟨o, es, ep, ho, r⟩ := i.dict; exact ⟨o, es, ep, k hd (by simp [footS]) o ho, r⟩
    each := fun j b db x y e1 e2 => (i.each j b db x y e1 e2).kept fun c hc => k c (by
      simp only [footS, List.mem_cons, List.mem_flatMap]
      exact .inr (.inr (.inr ⟨_, List.mem_of_getElem? e1, by simpa using hc⟩))) }
theorem StoreAt.alive {h : Heap} {a dx C V p hd : Addr} {pool : List (Addr × Addr)} {f : StF} {vs : List Value} {m : Str → Option Value} {ks : List (Str × Value)} (i : StoreAt prog w h a dx C V p hd pool f vs m ks) :
    ∀ c ∈ footS a dx hd pool, ∃ o, h.get? c = some o ∧ ¬ Tup o := by
  intro c hc
  simp only [footS, List.mem_cons, List.mem_flatMap] at hc
  rcases hc with rfl | rfl | rfl | ⟨q, hq, hc⟩
  · exact i.obj.alive _ (by simp)
  · exact i.obj.alive _ (by simp)
  · obtain ⟨o, es, ep, ho, hx, _⟩ := i.dict
    refine ⟨o, ho, ?_⟩
    rintro ⟨vs, k, rfl⟩
    exact absurd hx.1 (by simp)
  · obtain ⟨j, hj⟩ := List.mem_iff_getElem?.mp hq
    have hl : j < f.worth.length := by rw [← i.len]; exact (List.getElem?_eq_some_iff.mp hj).1
    obtain ⟨m', t, u, I, _⟩ := i.each j q.1 q.2 (f.worth[j]).1 (f.worth[j]).2 hj (by simp [hl])
    exact I.alive c (by simpa using hc)
end

section
variable (prog : Program) (w : World) (Hz : List Addr)
mutual
inductive RD (h : Heap) : Value → PyData → List Addr → Prop
  | none : RD h .none .none []
  | bool (b : Bool) : RD h (.bool b) (.bool b) []
  | int (i : Int) (t : Tok) : RD h (.int i t) (.int i) []
  | str (x : Str) (t : Tok) : RD h (.str x t) (.str x) []
  | list {a : Addr} {vs : List Value} {n : Nat} {xs : List PyData} {as : List Addr} : h.get? a = some (lstObj vs n) → RDs h vs xs as → RD h (.ref a) (.list xs) (a :: as)
  | tuple {a : Addr} {vs : List Value} {n : Nat} {xs : List PyData} {as : List Addr} : h.get? a = some (tupObj vs n) → a ∉ Hz → RDs h vs xs as → RD h (.ref a) (.tuple xs) as
  | dict {a : Addr} {kvs : List (Str × Value)} {xs : List (Str × PyData)} {as : List Addr} : h.DictOf (strKind prog w) a kvs → (a == sysModules) = false → kvs.map (·.1) = xs.map (·.1) → RDs h (kvs.map (·.2)) (xs.map (·.2)) as →
      RD h (.ref a) (dictOf xs) (a :: as)
  | val {V b db : Addr} {x y : Int} : ValAt h V b db x y → RD h (.ref b) (valD V x y) [b, db]
  | store {a dx C V p hd : Addr} {pool : List (Addr × Addr)} {f : StF} {vs : List Value} {m : Str → Option Value} {ks : List (Str × Value)} {as : List Addr} : StoreAt prog w h a dx C V p hd pool f vs m ks → RDs h vs [f.told, f.given, f.standing] as → RD h (.ref a) (storeD C V p f) (footS a dx hd pool ++ as)
  | inst {a dx C : Addr} {rs : List (Str × Addr)} {fs : List (Str × PyData)} {vs : List Value} {m : Str → Option Value} {as : List Addr} : IAt h a dx C m → (∀ q ∈ rs, m q.1 = some (.ref q.2)) → fs.map (fun p => m p.1) = vs.map some → Within m (rs.map (·.1) ++ fs.map (·.1)) → RDs h vs (fs.map (·.2)) as → RD h (.ref a) (recD C rs fs) (a :: dx :: as)
inductive RDs (h : Heap) : List Value → List PyData → List Addr → Prop
  | nil : RDs h [] [] []
  | cons {u : Value} {us : List Value} {x : PyData} {xs : List PyData} {as bs : List Addr} : RD h u x as → RDs h us xs bs → RDs h (u :: us) (x :: xs) (as ++ bs)
end
end
variable {prog : Program} {w : World} {Hz : List Addr}

mutual
noncomputable def flat : PyData → Bool
  | .none => true
  | .bool _ => true
  | .int _ => true
  | .str _ => true
  | .list _ => false
  | .tuple xs => flats xs
  | .dict _ => false
noncomputable def flats : List PyData → Bool
  | [] => true
  | x :: xs => flat x && flats xs
end
mutual
noncomputable def wf : PyData → Bool
  | .none => true
  | .bool _ => true
  | .int _ => true
  | .str x => PyData.strOk x && decide (x.length ≤ sizeLine)
  | .list xs => decide (xs.length ≤ sizeLine) && wfs xs
  | .tuple xs => decide (xs.length ≤ sizeLine) && wfs xs
  | .dict kvs => decide (kvs.length ≤ sizeLine) && wfk kvs
noncomputable def wfs : List PyData → Bool
  | [] => true
  | x :: xs => wf x && wfs xs
noncomputable def wfk : List (PyData × PyData) → Bool
  | [] => true
  | (k, x) :: xs => wf k && wf x && wfk xs
end
mutual
noncomputable def nd : PyData → Bool
  | .none => true
  | .bool _ => true
  | .int _ => true
  | .str _ => true
  | .list xs => nds xs
  | .tuple xs => nds xs
  | .dict _ => false
noncomputable def nds : List PyData → Bool
  | [] => true
  | x :: xs => nd x && nds xs
end
mutual
theorem can_of : ∀ x : PyData, wf x = true → nd x = true → x.canLay0 = true
  | .none, _, _ => by simp [PyData.canLay0]
  | .bool _, _, _ => by simp [PyData.canLay0]
  | .int _, _, _ => by simp [PyData.canLay0]
  | .str x, h, _ => by simp only [wf, Bool.and_eq_true] at h; simpa [PyData.canLay0] using h.1
  | .list xs, h, f => by simp only [wf, Bool.and_eq_true] at h; simp only [PyData.canLay0]; exact cans_of xs h.2 (by simpa [nd] using f)
  | .tuple xs, h, f => by simp only [wf, Bool.and_eq_true] at h; simp only [PyData.canLay0]; exact cans_of xs h.2 (by simpa [nd] using f)
  | .dict _, _, h => by simp [nd] at h
theorem cans_of : ∀ xs : List PyData, wfs xs = true → nds xs = true → PyData.canLayAll0 xs = true
  | [], _, _ => by simp [PyData.canLayAll0]
  | x :: xs, h, f => by
    simp only [wfs, Bool.and_eq_true] at h
    simp only [nds, Bool.and_eq_true] at f
    simp [PyData.canLayAll0, can_of x h.1 f.1, cans_of xs h.2 f.2]
end

section
variable {h h' : Heap}
theorem RD.both {P : Value → PyData → List Addr → Prop} {R : List Value → List PyData → List Addr → Prop} (c1 : P .none .none []) (c2 : ∀ b, P (.bool b) (.bool b) []) (c3 : ∀ i t, P (.int i t) (.int i) []) (c4 : ∀ x t, P (.str x t) (.str x) [])
    (c5 : ∀ {a vs n xs as}, h.get? a = some (lstObj vs n) → RDs prog w Hz h vs xs as → R vs xs as → P (.ref a) (.list xs) (a :: as)) (c6 : ∀ {a vs n xs as}, h.get? a = some (tupObj vs n) → a ∉ Hz → RDs prog w Hz h vs xs as → R vs xs as → P (.ref a) (.tuple xs) as)
    (c7 : ∀ {a} {kvs : List (Str × Value)} {xs : List (Str × PyData)} {as}, h.DictOf (strKind prog w) a kvs → (a == sysModules) = false → kvs.map (·.1) = xs.map (·.1) → RDs prog w Hz h (kvs.map (·.2)) (xs.map (·.2)) as → R (kvs.map (·.2)) (xs.map (·.2)) as → P (.ref a) (dictOf xs) (a :: as))
    (cv : ∀ {V b db x y}, ValAt h V b db x y → P (.ref b) (valD V x y) [b, db])
    (cs : ∀ {a dx C V p hd pool f vs m ks as}, StoreAt prog w h a dx C V p hd pool f vs m ks → RDs prog w Hz h vs [f.told, f.given, f.standing] as → R vs [f.told, f.given, f.standing] as → P (.ref a) (storeD C V p f) (footS a dx hd pool ++ as))
    (cr : ∀ {a dx C} {rs : List (Str × Addr)} {fs : List (Str × PyData)} {vs : List Value} {m : Str → Option Value} {as}, IAt h a dx C m → (∀ q ∈ rs, m q.1 = some (.ref q.2)) → fs.map (fun p => m p.1) = vs.map some → Within m (rs.map (·.1) ++ fs.map (·.1)) → RDs prog w Hz h vs (fs.map (·.2)) as → R vs (fs.map (·.2)) as → P (.ref a) (recD C rs fs) (a :: dx :: as))
    (c8 : R [] [] []) (c9 : ∀ {u us x xs as bs}, RD prog w Hz h u x as → RDs prog w Hz h us xs bs → P u x as → R us xs bs → R (u :: us) (x :: xs) (as ++ bs)) :
    (∀ {v x as}, RD prog w Hz h v x as → P v x as) ∧ ∀ {vs xs as}, RDs prog w Hz h vs xs as → R vs xs as :=
  ⟨fun {_ _ _} r => RD.rec (motive_1 := fun v x as _ => P v x as) (motive_2 := fun vs xs as _ => R vs xs as) c1 c2 c3 c4 (fun a b c => c5 a b c) (fun a z b c => c6 a z b c) (fun a b c d e => c7 a b c d e) (fun a => cv a) (fun a b c => cs a b c) (fun a b c d e f => cr a b c d e f) c8 (fun a b c d => c9 a b c d) r,
   fun {_ _ _} r => RDs.rec (motive_1 := fun v x as _ => P v x as) (motive_2 := fun vs xs as _ => R vs xs as) c1 c2 c3 c4 (fun a b c => c5 a b c) (fun a z b c => c6 a z b c) (fun a b c d e => c7 a b c d e) (fun a => cv a) (fun a b c => cs a b c) (fun a b c d e f => cr a b c d e f) c8 (fun a b c d => c9 a b c d) r⟩
theorem grow_both (k : Grow h h') : (∀ {v x as}, RD prog w Hz h v x as → RD prog w Hz h' v x as) ∧ ∀ {vs xs as}, RDs prog w Hz h vs xs as → RDs prog w Hz h' vs xs as :=
  RD.both .none .bool .int .str (fun a _ r => .list (k _ _ a) r) (fun a z _ r => .tuple (k _ _ a) z r) (fun q g e _ r => .dict (by obtain ⟨o, es, ep, ho, q⟩ := q; exact ⟨o, es, ep, k _ _ ho, q⟩) g e r) (fun i => .val (i.kept fun _ _ _ => k _ _)) (fun i _ r => .store (i.kept fun _ _ _ => k _ _) r) (fun i q e n _ r => .inst (i.kept (k _) (k _)) q e n r) .nil (fun _ _ a r => .cons a r)
theorem RD.grow (k : Grow h h') {v : Value} {x : PyData} {as : List Addr} (r : RD prog w Hz h v x as) : RD prog w Hz h' v x as := (grow_both k).1 r
theorem RDs.grow (k : Grow h h') {vs : List Value} {xs : List PyData} {as : List Addr} (r : RDs prog w Hz h vs xs as) : RDs prog w Hz h' vs xs as := (grow_both k).2 r
theorem hide_both {Hy : List Addr} (k : ∀ a o, h.get? a = some o → a ∉ Hz → a ∉ Hy) : (∀ {v x as}, RD prog w Hz h v x as → RD prog w Hy h v x as) ∧ ∀ {vs xs as}, RDs prog w Hz h vs xs as → RDs prog w Hy h vs xs as :=
  RD.both .none .bool .int .str (fun a _ r => .list a r) (fun a z _ r => .tuple a (k _ _ a z) r) (fun q g e _ r => .dict q g e r) (fun i => .val i) (fun i _ r => .store i r) (fun i q e n _ r => .inst i q e n r) .nil (fun _ _ a r => .cons a r)
theorem lift0 {hb : Heap} (k : ∀ z ∈ Hz, hb.get? z = none) : (∀ {v x as}, RD prog w [] hb v x as → RD prog w Hz hb v x as) ∧ ∀ {vs xs as}, RDs prog w [] hb vs xs as → RDs prog w Hz hb vs xs as :=
  hide_both fun a o e _ z => by rw [k a z] at e; exact no e
noncomputable def Off (W : List Addr) (h h' : Heap) : Prop := ∀ b o, h.get? b = some o → (b ∉ W ∨ Tup o) → h'.get? b = some o
theorem Off.of_grow {W : List Addr} (k : Grow h h') : Off W h h' := fun b o e _ => k b o e
theorem off_both {W : List Addr} (k : Off W h h') : (∀ {v x as}, RD prog w Hz h v x as → (∀ a ∈ as, a ∉ W) → RD prog w Hz h' v x as) ∧ ∀ {vs xs as}, RDs prog w Hz h vs xs as → (∀ a ∈ as, a ∉ W) → RDs prog w Hz h' vs xs as :=
  RD.both (fun _ => .none) (fun b _ => .bool b) (fun i t _ => .int i t) (fun i t _ => .str i t) (fun a _ r q => .list (k _ _ a (.inl (q _ (.head _)))) (r fun b hb => q b (.tail _ hb))) (fun a z _ r q => .tuple (k _ _ a (.inr ⟨_, _, rfl⟩)) z (r q))
    (fun p g e _ r q => .dict (by obtain ⟨o, es, ep, ho, p⟩ := p; exact ⟨o, es, ep, k _ _ ho (.inl (q _ (.head _))), p⟩) g e (r fun b hb => q b (.tail _ hb))) (fun i q => .val (i.kept fun c hc o e => k c o e (.inl (q c hc)))) (fun i _ r q => .store (i.kept fun c hc o e => k c o e (.inl (q c (List.mem_append_left _ hc)))) (r fun b hb => q b (List.mem_append_right _ hb))) (fun i p e n _ r q => .inst (i.kept (fun o eo => k _ o eo (.inl (q _ (.head _)))) (fun o eo => k _ o eo (.inl (q _ (.tail _ (.head _)))))) p e n (r fun b hb => q b (.tail _ (.tail _ hb)))) (fun _ => .nil) (fun _ _ a r q => .cons (a fun b hb => q b (List.mem_append_left _ hb)) (r fun b hb => q b (List.mem_append_right _ hb)))
theorem RD.off {W : List Addr} (k : Off W h h') {v : Value} {x : PyData} {as : List Addr} (r : RD prog w Hz h v x as) (q : ∀ a ∈ as, a ∉ W) : RD prog w Hz h' v x as := (off_both k).1 r q
theorem RDs.off {W : List Addr} (k : Off W h h') {vs : List Value} {xs : List PyData} {as : List Addr} (r : RDs prog w Hz h vs xs as) (q : ∀ a ∈ as, a ∉ W) : RDs prog w Hz h' vs xs as := (off_both k).2 r q
theorem alive_both : (∀ {v x as}, RD prog w Hz h v x as → ∀ a ∈ as, ∃ o, h.get? a = some o) ∧ ∀ {vs xs as}, RDs prog w Hz h vs xs as → ∀ a ∈ as, ∃ o, h.get? a = some o :=
  RD.both (fun _ q => nomatch q) (fun _ _ q => nomatch q) (fun _ _ _ q => nomatch q) (fun _ _ _ q => nomatch q) (fun a _ r b q => (List.mem_cons.mp q).elim (fun e => ⟨_, e ▸ a⟩) (r b)) (fun _ _ _ r b q => r b q)
    (fun p _ _ _ r b q => (List.mem_cons.mp q).elim (fun e => by obtain ⟨o, _, _, ho, _⟩ := p; exact ⟨o, e ▸ ho⟩) (r b)) (fun i c q => by obtain ⟨m, t, u, i, _⟩ := i; exact (i.alive c q).imp fun _ h => h.1) (fun i _ r c q => (List.mem_append.mp q).elim (fun q => (i.alive c q).imp fun _ h => h.1) (r c)) (fun {a dx _ _ _ _ _ as} i _ _ _ _ r c q => (List.mem_append.mp (show c ∈ [a, dx] ++ as from q)).elim (fun q => (i.alive c q).imp fun _ h => h.1) (r c)) (fun _ q => nomatch q) (fun _ _ a r b q => (List.mem_append.mp q).elim (a b) (r b))
theorem RD.alive {v : Value} {x : PyData} {as : List Addr} (r : RD prog w Hz h v x as) : ∀ a ∈ as, ∃ o, h.get? a = some o := alive_both.1 r
theorem RDs.alive {vs : List Value} {xs : List PyData} {as : List Addr} (r : RDs prog w Hz h vs xs as) : ∀ a ∈ as, ∃ o, h.get? a = some o := alive_both.2 r
theorem flat_both : (∀ {v x as}, RD prog w Hz h v x as → flat x = true → as = []) ∧ ∀ {vs xs as}, RDs prog w Hz h vs xs as → flats xs = true → as = [] :=
  RD.both (fun _ => rfl) (fun _ _ => rfl) (fun _ _ _ => rfl) (fun _ _ _ => rfl) (fun _ _ _ e => by simp [flat] at e) (fun _ _ _ r e => r (by simpa [flat] using e)) (fun _ _ _ _ _ e => by simp [flat, dictOf] at e) (fun _ e => by simp [flat, valD] at e) (fun _ _ _ e => by simp [flat, storeD] at e) (fun _ _ _ _ _ _ e => by simp [flat, recD] at e) (fun _ => rfl)
    (fun _ _ a r e => by
      simp only [flats, Bool.and_eq_true] at e
      rw [a e.1, r e.2]; rfl)
theorem RD.flat_foot {v : Value} {x : PyData} {as : List Addr} (r : RD prog w Hz h v x as) (e : flat x = true) : as = [] := flat_both.1 r e
theorem RDs.flat_foot {vs : List Value} {xs : List PyData} {as : List Addr} (r : RDs prog w Hz h vs xs as) (e : flats xs = true) : as = [] := flat_both.2 r e
theorem reads_both : (∀ {v x as}, RD prog w Hz h v x as → x.canLay0 = true → Reads h v x as) ∧ ∀ {vs xs as}, RDs prog w Hz h vs xs as → PyData.canLayAll0 xs = true → ReadsAll h vs xs as :=
  RD.both (fun _ => .none) (fun b _ => .bool b) (fun i t _ => .int i t) (fun i t _ => .str i t) (fun a _ r c => .list a rfl rfl (r (by simpa [PyData.canLay0] using c))) (fun a _ _ r c => .tuple a rfl rfl (r (by simpa [PyData.canLay0] using c)))
    (fun _ _ _ _ _ c => by simp [PyData.canLay0, dictOf] at c) (fun _ c => by simp [PyData.canLay0, valD] at c) (fun _ _ _ c => by simp [PyData.canLay0, storeD] at c) (fun _ _ _ _ _ _ c => by simp [PyData.canLay0, recD] at c) (fun _ => .nil) (fun _ _ a r c => by
      simp only [PyData.canLayAll0, Bool.and_eq_true] at c
      exact .cons (a c.1) (r c.2))
theorem RD.reads {v : Value} {x : PyData} {as : List Addr} (r : RD prog w Hz h v x as) (c : x.canLay0 = true) : Reads h v x as := reads_both.1 r c
theorem RDs.ind {R : List Value → List PyData → List Addr → Prop} (c8 : R [] [] []) (c9 : ∀ {u us x xs as bs}, RD prog w Hz h u x as → RDs prog w Hz h us xs bs → R us xs bs → R (u :: us) (x :: xs) (as ++ bs)) {vs : List Value} {xs : List PyData} {as : List Addr} (r : RDs prog w Hz h vs xs as) : R vs xs as :=
  (RD.both (P := fun _ _ _ => True) (R := R) trivial (fun _ => trivial) (fun _ _ => trivial) (fun _ _ => trivial) (fun _ _ _ => trivial) (fun _ _ _ _ => trivial) (fun _ _ _ _ _ => trivial) (fun _ => trivial) (fun _ _ _ => trivial) (fun _ _ _ _ _ _ => trivial) c8 (fun a b _ r => c9 a b r)).2 r
theorem RDs.length {vs : List Value} {xs : List PyData} {as : List Addr} (r : RDs prog w Hz h vs xs as) : vs.length = xs.length :=
  RDs.ind (R := fun vs xs _ => vs.length = xs.length) rfl (fun _ _ r => by rw [List.length_cons, List.length_cons, r]) r
theorem RDs.append {vs : List Value} {xs : List PyData} {as : List Addr} {ws : List Value} {ys : List PyData} {bs : List Addr} (r : RDs prog w Hz h vs xs as) (q : RDs prog w Hz h ws ys bs) : RDs prog w Hz h (vs ++ ws) (xs ++ ys) (as ++ bs) :=
  RDs.ind (R := fun vs xs as => RDs prog w Hz h (vs ++ ws) (xs ++ ys) (as ++ bs)) q (fun a _ r => by rw [List.append_assoc]; exact .cons a r) r
theorem RDs.get {vs : List Value} {xs : List PyData} {as : List Addr} (r : RDs prog w Hz h vs xs as) {i : Nat} {x : PyData} (e : xs[i]? = some x) : ∃ v bs, vs[i]? = some v ∧ RD prog w Hz h v x bs ∧ ∀ b ∈ bs, b ∈ as := by
  refine RDs.ind (R := fun vs xs as => ∀ i : Nat, xs[i]? = some x → ∃ v bs, vs[i]? = some v ∧ RD prog w Hz h v x bs ∧ ∀ b ∈ bs, b ∈ as) (fun i e => by simp at e) (fun {u us y ys as bs} a _ r i e => ?_) r i e
  induction i with
  | zero =>
    rw [List.getElem?_cons_zero] at e
    (have e := si e; subst e; clear e)
    exact ⟨u, as, rfl, a, fun b hb => List.mem_append_left _ hb⟩
  | succ i =>
    obtain ⟨v, bs, h1, h2, h3⟩ := r i e
    exact ⟨v, bs, h1, h2, fun b hb => List.mem_append_right _ (h3 b hb)⟩
theorem RDs.part {vs : List Value} {xs : List PyData} {as : List Addr} (r : RDs prog w Hz h vs xs as) (is : List Nat) :
    ∃ bs, RDs prog w Hz h (is.filterMap fun i => vs[i]?) (is.filterMap fun i => xs[i]?) bs ∧ ∀ b ∈ bs, b ∈ as := by
  induction is with
  | nil => exact ⟨[], .nil, fun _ q => nomatch q⟩
  | cons i is ih =>
    obtain ⟨bs, q, hq⟩ := ih
    by_cases hi : i < xs.length
    · obtain ⟨v, cs, e1, e2, e3⟩ := r.get (i := i) (x := xs[i]) (by simp [hi])
      refine ⟨cs ++ bs, ?_, fun b hb => (List.mem_append.mp hb).elim (e3 b) (hq b)⟩
      rw [List.filterMap_cons, List.filterMap_cons, e1]
      simp only [List.getElem?_eq_getElem hi]
      exact .cons e2 q
    · have hv : vs[i]? = none := List.getElem?_eq_none (by rw [r.length]; lia)
      have hx : xs[i]? = none := List.getElem?_eq_none (by lia)
      refine ⟨bs, ?_, hq⟩
      rw [List.filterMap_cons, List.filterMap_cons, hv, hx]
      exact q
end
section
variable {h : Heap} {v : Value} {as : List Addr}
theorem RDs.cons_inv {us : List Value} {u : Value} {x : PyData} {xs : List PyData} (r : RDs prog w Hz h (u :: us) (x :: xs) as) : ∃ bs cs, as = bs ++ cs ∧ RD prog w Hz h u x bs ∧ RDs prog w Hz h us xs cs := by
  cases r with
  | cons a b => exact ⟨_, _, rfl, a, b⟩
section
variable (prog w Hz)
inductive UnI (h : Heap) (x : PyData) (xs : List PyData) : List Value → List Addr → Prop
  | mk (u : Value) (us : List Value) (bs cs : List Addr) (a : RD prog w Hz h u x bs) (b : RDs prog w Hz h us xs cs) : UnI h x xs (u :: us) (bs ++ cs)
inductive IntI (i : Int) : Value → Prop
  | mk (t : Tok) : IntI i (.int i t)
inductive StrI (x : Str) : Value → Prop
  | mk (t : Tok) : StrI x (.str x t)
inductive ListI (h : Heap) (xs : List PyData) : Value → List Addr → Prop
  | mk (a : Addr) (vs : List Value) (n : Nat) (bs : List Addr) (h1 : h.get? a = some (lstObj vs n)) (h2 : RDs prog w Hz h vs xs bs) : ListI h xs (.ref a) (a :: bs)
inductive TupI (h : Heap) (xs : List PyData) (as : List Addr) : Value → Prop
  | mk (a : Addr) (vs : List Value) (n : Nat) (h1 : h.get? a = some (tupObj vs n)) (h2 : RDs prog w Hz h vs xs as) : TupI h xs as (.ref a)
inductive DictI (h : Heap) : List (PyData × PyData) → Value → List Addr → Prop
  | mk (a : Addr) (kvs : List (Str × Value)) (xs : List (Str × PyData)) (bs : List Addr) (h1 : h.DictOf (strKind prog w) a kvs) (h2 : (a == sysModules) = false) (h3 : kvs.map (·.1) = xs.map (·.1)) (h4 : RDs prog w Hz h (kvs.map (·.2)) (xs.map (·.2)) bs) : DictI h (xs.map fun p => (.str p.1, p.2)) (.ref a) (a :: bs)
end
theorem RDs.unI {vs : List Value} {x : PyData} {xs : List PyData} (r : RDs prog w Hz h vs (x :: xs) as) : UnI prog w Hz h x xs vs as := by
  cases r with
  | cons a b => exact ⟨_, _, _, _, a, b⟩
theorem RD.intI {i : Int} (r : RD prog w Hz h v (.int i) as) : IntI i v := by cases r; exact ⟨_⟩
theorem RD.strI {x : Str} (r : RD prog w Hz h v (.str x) as) : StrI x v := by cases r; exact ⟨_⟩
theorem RD.listI {xs : List PyData} (r : RD prog w Hz h v (.list xs) as) : ListI prog w Hz h xs v as := by
  cases r with
  | list a b => exact ⟨_, _, _, _, a, b⟩
theorem RD.tupI {xs : List PyData} (r : RD prog w Hz h v (.tuple xs) as) : TupI prog w Hz h xs as v := by
  cases r with
  | tuple a _ b => exact ⟨_, _, _, a, b⟩
theorem RDs.nil_inv {vs : List Value} (r : RDs prog w Hz h vs [] as) : vs = [] ∧ as = [] := by
  cases r with
  | nil => exact ⟨rfl, rfl⟩
theorem RD.none_inv (r : RD prog w Hz h v .none as) : v = .none := by cases r; rfl
theorem RD.bool_inv {b : Bool} (r : RD prog w Hz h v (.bool b) as) : v = .bool b := by cases r; rfl
theorem RD.int_inv {i : Int} (r : RD prog w Hz h v (.int i) as) : ∃ t, v = .int i t := by cases r; exact ⟨_, rfl⟩
theorem RD.list_inv {xs : List PyData} (r : RD prog w Hz h v (.list xs) as) : ∃ a vs n bs, v = .ref a ∧ as = a :: bs ∧ h.get? a = some (lstObj vs n) ∧ RDs prog w Hz h vs xs bs := by
  cases r with
  | list a b => exact ⟨_, _, _, _, rfl, rfl, a, b⟩
noncomputable def plainK : List (PyData × PyData) → Bool
  | [] => true
  | (.str _, _) :: _ => true
  | _ => false
theorem plainK_map {α : Type} (f : α → Str) (g : α → PyData) (xs : List α) : plainK (xs.map fun p => (.str (f p), g p)) = true := by cases xs <;> rfl
theorem RD.dict_inv {ps : List (PyData × PyData)} (r : RD prog w Hz h v (.dict ps) as) (hk : plainK ps = true) : ∃ (a : Addr) (kvs : List (Str × Value)) (xs : List (Str × PyData)) (bs : List Addr), v = .ref a ∧ as = a :: bs ∧ ps = (xs.map fun p => (.str p.1, p.2)) ∧ h.DictOf (strKind prog w) a kvs ∧ (a == sysModules) = false ∧ kvs.map (·.1) = xs.map (·.1) ∧ RDs prog w Hz h (kvs.map (·.2)) (xs.map (·.2)) bs := by
  generalize hd : PyData.dict ps = D at r
  cases r with
  | dict b1 b2 b3 b4 => exact ⟨_, _, _, _, rfl, rfl, PyData.dict.inj hd, b1, b2, b3, b4⟩
  | val i => cases hd; cases hk
  | store i r => cases hd; cases hk
  | inst i q e n r => cases hd; cases hk
  | _ => cases hd
theorem RD.dictI {ps : List (PyData × PyData)} (r : RD prog w Hz h v (.dict ps) as) (hk : plainK ps = true) : DictI prog w Hz h ps v as := by
  obtain ⟨a, kvs, xs, bs, rfl, rfl, rfl, h1, h2, h3, h4⟩ := r.dict_inv hk
  exact ⟨a, kvs, xs, bs, h1, h2, h3, h4⟩
end
theorem wfs_append (xs ys : List PyData) : wfs (xs ++ ys) = (wfs xs && wfs ys) := by
  induction xs with
  | nil => simp [wfs]
  | cons x xs ih => simp [wfs, ih, Bool.and_assoc]
theorem wfs_iff (xs : List PyData) : wfs xs = true ↔ ∀ x ∈ xs, wf x = true := by
  induction xs with
  | nil => simp [wfs]
  | cons x xs ih => simp [wfs, ih]
theorem nds_iff (xs : List PyData) : nds xs = true ↔ ∀ x ∈ xs, nd x = true := by
  induction xs with
  | nil => simp [nds]
  | cons x xs ih => simp [nds, ih]
theorem flats_iff (xs : List PyData) : flats xs = true ↔ ∀ x ∈ xs, flat x = true := by
  induction xs with
  | nil => simp [flats]
  | cons x xs ih => simp [flats, ih]

inductive Fl where
  | d
  | s
  | t
  deriving DecidableEq
structure V where
  x : PyData
  fl : Fl
noncomputable def V.fix (x : PyData) (f : Fl) : V := ⟨x, if flat x then .d else f⟩
inductive Own where
  | lst (xs : List PyData)
  | dct (kvs : List (Str × PyData))
  | tree (r : Option Addr) (x : PyData)
inductive VV where
  | val (v : V)
  | own (o : Own)
noncomputable abbrev Rho := String → Option VV
noncomputable def Rho.set (ρ : Rho) (x : String) (v : VV) : Rho := fun y => bif y == x then some v else ρ y
theorem set_if (ρ : Rho) (x : String) (v : VV) (y : String) : (ρ.set x v) y = if y = x then some v else ρ y := by
  by_cases h : y = x
  · rw [if_pos h]; subst h; simp [Rho.set]
  · rw [if_neg h]; simp [Rho.set, beq_eq_false_iff_ne.mpr h]

noncomputable def isNode : PyData → Bool
  | .list _ => true
  | .dict _ => true
  | _ => false
noncomputable def FlOk (s₀ : Heap) (W : List Addr) (f : Fl) (as : List Addr) : Prop :=
  match f with
  | .d => ∀ a ∈ as, s₀.get? a = none ∧ a ∉ W
  | .s => ∀ a ∈ as, a ∉ W
  | .t => True
theorem FlOk.nil {s₀ : Heap} {W : List Addr} {f : Fl} : FlOk s₀ W f [] := by cases f <;> simp [FlOk]
theorem FlOk.mono {s₀ : Heap} {W : List Addr} {f : Fl} {as bs : List Addr} (h : FlOk s₀ W f as) (hs : ∀ a ∈ bs, a ∈ as) : FlOk s₀ W f bs := by
  cases f
  · exact fun a ha => h a (hs a ha)
  · exact fun a ha => h a (hs a ha)
  · trivial
theorem FlOk.append {s₀ : Heap} {W : List Addr} {f : Fl} {as bs : List Addr} (h : FlOk s₀ W f as) (k : FlOk s₀ W f bs) : FlOk s₀ W f (as ++ bs) := by
  cases f
  · exact fun a ha => (List.mem_append.mp ha).elim (h a) (k a)
  · exact fun a ha => (List.mem_append.mp ha).elim (h a) (k a)
  · trivial
section
variable (prog w Hz)
inductive Rep (s₀ : Heap) (W : List Addr) (h : Heap) (u : Value) (v : V) : Prop
  | mk (as : List Addr) (h1 : RD prog w Hz h u v.x as) (h2 : wf v.x = true) (h3 : FlOk s₀ W v.fl as) : Rep s₀ W h u v
inductive Reps (s₀ : Heap) (W : List Addr) (h : Heap) : List Value → List V → Prop
  | nil : Reps s₀ W h [] []
  | cons {u : Value} {v : V} {us : List Value} {vs : List V} : Rep prog w Hz s₀ W h u v → Reps s₀ W h us vs → Reps s₀ W h (u :: us) (v :: vs)
end
section
variable {s₀ : Heap} {W : List Addr} {h h' : Heap}
theorem Rep.grow {u : Value} {v : V} (r : Rep prog w Hz s₀ W h u v) (k : Grow h h') : Rep prog w Hz s₀ W h' u v := by
  obtain ⟨as, r, c, f⟩ := r; exact ⟨as, r.grow k, c, f⟩
theorem Reps.grow {us : List Value} {vs : List V} (r : Reps prog w Hz s₀ W h us vs) (k : Grow h h') : Reps prog w Hz s₀ W h' us vs := by
  induction r with
  | nil => exact .nil
  | cons a _ ih => exact .cons (a.grow k) ih
theorem Rep.fixed {u : Value} {x : PyData} {f : Fl} {as : List Addr} (r : RD prog w Hz h u x as) (c : wf x = true) (o : FlOk s₀ W f as) : Rep prog w Hz s₀ W h u (V.fix x f) := by
  cases e : flat x with
  | true =>
    refine ⟨as, r, c, ?_⟩
    rw [r.flat_foot e]; exact FlOk.nil
  | false => exact ⟨as, r, c, by simpa [V.fix, e] using o⟩
theorem Rep.int {i : Int} {t : Tok} : Rep prog w Hz s₀ W h (.int i t) ⟨.int i, .d⟩ := ⟨[], .int i t, rfl, FlOk.nil⟩
theorem Rep.bool {b : Bool} : Rep prog w Hz s₀ W h (.bool b) ⟨.bool b, .d⟩ := ⟨[], .bool b, rfl, FlOk.nil⟩
theorem Rep.none : Rep prog w Hz s₀ W h .none ⟨.none, .d⟩ := ⟨[], .none, rfl, FlOk.nil⟩
theorem Rep.str {x : Str} {t : Tok} (hx : wf (.str x) = true) : Rep prog w Hz s₀ W h (.str x t) ⟨.str x, .d⟩ := ⟨[], .str x t, hx, FlOk.nil⟩
end

section
variable (prog w Hz)
inductive RepO (s₀ : Heap) (W : List Addr) (h : Heap) : Value → Own → List Addr → Prop
  | lst {a : Addr} {vs : List Value} {n : Nat} {xs : List PyData} {as : List Addr} : h.get? a = some (lstObj vs n) → RDs prog w Hz h vs xs as → wf (.list xs) = true →
      FlOk s₀ W .d as → RepO s₀ W h (.ref a) (.lst xs) [a]
  | dct {a : Addr} {kvs : List (Str × Value)} {xs : List (Str × PyData)} {as : List Addr} : h.DictOf (strKind prog w) a kvs → (a == sysModules) = false → kvs.map (·.1) = xs.map (·.1) → RDs prog w Hz h (kvs.map (·.2)) (xs.map (·.2)) as →
      wf (dictOf xs) = true → FlOk s₀ W .d as → RepO s₀ W h (.ref a) (.dct xs) [a]
  | tree {a : Addr} {r : Option Addr} {x : PyData} {as : List Addr} : RD prog w Hz h (.ref a) x as → as.Nodup → wf x = true → isNode x = true → (∀ b, r = some b → b = a) → RepO s₀ W h (.ref a) (.tree r x) as

noncomputable def RepVV (s₀ : Heap) (W : List Addr) (O : List (String × List Addr)) (h : Heap) (x : String) (u : Value) : VV → Prop
  | .val v => (v.fl = .d ∨ v.fl = .s) ∧ Rep prog w Hz s₀ W h u v
  | .own o => ∃ sp, O.lookup x = some sp ∧ RepO prog w Hz s₀ W h u o sp

structure Base (hb h : Heap) : Prop where
  hide : ∀ z ∈ Hz, hb.get? z = none ∧ ∃ o, h.get? z = some o ∧ Tup o
  lim : hb.NoLimit
  seer : hb.NoSeer
  tree : prog.given.tree = none
  mods : ∃ o, hb.get? sysModules = some o
  grow : Grow hb h
variable {prog Hz} in
theorem Base.trans {hb h h' : Heap} (b : Base prog Hz hb h) (k : Grow h h') : Base prog Hz hb h' := ⟨fun z hz => let ⟨q, o, e, t⟩ := b.hide z hz; ⟨q, o, k _ _ e, t⟩, b.lim, b.seer, b.tree, b.mods, b.grow.trans k⟩
variable {prog Hz} in
theorem Base.nolimit {hb h : Heap} (b : Base prog Hz hb h) : h.NoLimit := b.lim.keeps b.grow
variable {prog Hz} in
theorem Base.noseer {hb h : Heap} (b : Base prog Hz hb h) : h.NoSeer := b.seer.keeps b.grow
noncomputable def WW (env : Env) (C : List Addr) (O : List (String × List Addr)) : List Addr := env.locals :: (C ++ O.flatMap (·.2))

structure InF (hb : Heap) (s₀ : Shared) (X : List Addr) (env : Env) (C : List Addr) (ρ : Rho) (O : List (String × List Addr)) (s : Shared) : Prop where
  same : ∃ h tk, s = { s₀ with heap := h, toks := tk }
  base : Base prog Hz hb s.heap
  keep : ∀ b o, s₀.heap.get? b = some o → b ∉ X → s.heap.get? b = some o
  alive : ∀ b o, s₀.heap.get? b = some o → ∃ o', s.heap.get? b = some o'
  walive : ∀ a ∈ WW env C O, ∃ o, s.heap.get? a = some o ∧ ¬ Tup o
  wfresh : ∀ a ∈ WW env C O, hb.get? a = none ∧ (a ∉ X → s₀.heap.get? a = none)
  wnodup : (WW env C O).Nodup
  kind : env.scope.kind = .function
  glob : env.globals = mainGlobals
  bult : env.builtins = builtinsNs
  clk : ∀ x, env.kindOf x = some .cell → ∃ c, env.cells.lookup x = some c
  ns : ∃ m, s.heap.Ns env.locals m ∧ ∀ x vv, ρ x = some vv → env.kindOf (Str.ofString x) = some .local → ∃ u, m (Str.ofString x) = some u ∧ RepVV prog w Hz s₀.heap (WW env C O) O s.heap x u vv
  cell : ∀ x vv, ρ x = some vv → env.kindOf (Str.ofString x) = some .cell → ∃ c u, env.cells.lookup (Str.ofString x) = some c ∧ s.heap.IsCell c (some u) ∧ RepVV prog w Hz s₀.heap (WW env C O) O s.heap x u vv
end

structure InS (prog : Program) (w : World) (Hz : List Addr) (hb : Heap) (s₀ : Shared) (X : List Addr) (env : Env) (C : List Addr) (ρ : Rho) (O : List (String × List Addr)) (s : Shared) : Prop extends InF prog w Hz hb s₀ X env C ρ O s where
  fc : ∀ x, env.kindOf (Str.ofString x) = some .cell → ∃ c, env.cells.lookup (Str.ofString x) = some c ∧ c ∈ C
  finj : ∀ x y c, env.cells.lookup x = some c → env.cells.lookup y = some c → x = y
  cello : ∀ x c, env.cells.lookup x = some c → c ∈ C ∧ ∃ v, s.heap.IsCell c v
theorem RepO.grow {s₀ : Heap} {W : List Addr} {h h' : Heap} {u : Value} {o : Own} {sp : List Addr} (r : RepO prog w Hz s₀ W h u o sp) (k : Grow h h') : RepO prog w Hz s₀ W h' u o sp := by
  induction r with
  | lst a b c d => exact .lst (k _ _ a) (b.grow k) c d
  | dct a g e b c d =>
    obtain ⟨o, es, ep, ho, r⟩ := a
    exact .dct ⟨o, es, ep, k _ _ ho, r⟩ g e (b.grow k) c d
  | tree a b c e f => exact .tree (a.grow k) b c e f
theorem RepVV.grow {s₀ : Heap} {W : List Addr} {O : List (String × List Addr)} {h h' : Heap} {x : String} {u : Value} {v : VV} (r : RepVV prog w Hz s₀ W O h x u v) (k : Grow h h') : RepVV prog w Hz s₀ W O h' x u v := by
  induction v with
  | val v => exact ⟨r.1, r.2.grow k⟩
  | own o => obtain ⟨sp, a, b⟩ := r; exact ⟨sp, a, b.grow k⟩
theorem isCell_grow {h h' : Heap} {c : Addr} {v : Option Value} (x : h.IsCell c v) (k : Grow h h') : h'.IsCell c v := by
  obtain ⟨o, ho, r⟩ := x; exact ⟨o, k _ _ ho, r⟩
section
variable {hb : Heap} {s₀ s s' : Shared} {X : List Addr} {env : Env} {C : List Addr} {ρ : Rho} {O : List (String × List Addr)}
theorem InF.grow (I : InF prog w Hz hb s₀ X env C ρ O s) (k : Keeps s s') : InF prog w Hz hb s₀ X env C ρ O s' := by
  obtain ⟨h', tk, rfl, k⟩ := k
  obtain ⟨⟨h, t, rfl⟩, i2, i3, i4, i5, i6, i7, i8, i8a, i8b, i8c, i9, i10⟩ := I
  refine ⟨⟨h', tk, rfl⟩, i2.trans k, fun b o e x => k _ _ (i3 b o e x), fun b o e => ?_, fun a ha => ?_, i6, i7, i8, i8a, i8b, i8c, ?_, ?_⟩
  · obtain ⟨o', e'⟩ := i4 b o e; exact ⟨o', k _ _ e'⟩
  · obtain ⟨o, e, c⟩ := i5 a ha; exact ⟨o, k _ _ e, c⟩
  · obtain ⟨m, hm, hv⟩ := i9
    refine ⟨m, hm.keeps k, fun x vv e1 e2 => ?_⟩
    obtain ⟨u, a, b⟩ := hv x vv e1 e2
    exact ⟨u, a, b.grow k⟩
  · intro x vv e1 e2
    obtain ⟨c, u, a, b, d⟩ := i10 x vv e1 e2
    exact ⟨c, u, a, isCell_grow b k, d.grow k⟩
theorem InS.grow (I : InS prog w Hz hb s₀ X env C ρ O s) (k : Keeps s s') : InS prog w Hz hb s₀ X env C ρ O s' :=
  ⟨I.toInF.grow k, I.fc, I.finj, fun x c hc => let ⟨q, v, h⟩ := I.cello x c hc; ⟨q, v, isCell_grow h (keeps_grow k)⟩⟩
theorem InF.fresh (I : InF prog w Hz hb s₀ X env C ρ O s) {a : Addr} (h : s.heap.get? a = none) : s₀.heap.get? a = none ∧ a ∉ WW env C O := by
  constructor
  · cases e : s₀.heap.get? a with
    | none => rfl
    | some o => obtain ⟨o', e'⟩ := I.alive a o e; rw [h] at e'; exact no e'
  · intro hm
    obtain ⟨o, e, _⟩ := I.walive a hm
    rw [h] at e; exact no e
theorem InF.size_fresh (I : InF prog w Hz hb s₀ X env C ρ O s) : s₀.heap.get? s.heap.objs.size = none ∧ s.heap.objs.size ∉ WW env C O := I.fresh (get?_size_none _ (Nat.le_refl _))
end

structure Room (A : Around) (n : Nat) : Prop where
  handled : A.handled = none
  depth : A.depth + n + 100 < recursionLimit
  units : A.units + 8 * n + 100 < cLine
  frames : ∃ l, A.frames = some l
structure PlainEnv (env : Env) : Prop where
  gen : env.scope.isGenerator = false
  co : env.scope.isCoroutine = false
  bult : env.builtins = builtinsNs
  glob : env.globals = mainGlobals
structure RoomF (A : Around) (n : Nat) : Prop extends Room A n where
  top : ∃ env l, A.frames = some (env :: l) ∧ PlainEnv env
theorem Room.mono {A : Around} {m n : Nat} (h : Room A n) (hm : m ≤ n) : Room A m := ⟨h.handled, by have := h.depth; lia, by have := h.units; lia, h.frames⟩
theorem Room.deeper {A : Around} {n : Nat} {env : Env} (h : Room A (n + 1)) (p : PlainEnv env) : RoomF (A.deeper env) n := by
  obtain ⟨l, hl⟩ := h.frames
  refine ⟨⟨h.handled, (by show A.depth + 1 + n + 100 < _; have := h.depth; lia), (by show A.units + 3 + 8 * n + 100 < _; have := h.units; lia), ⟨env :: l, ?_⟩⟩, ⟨env, l, ?_, p⟩⟩ <;> (show A.frames.map _ = _; rw [hl]; rfl)
theorem RoomF.pylong {A : Around} {n : Nat} {s : Shared} {hb : Heap} (h : RoomF A n) (b : Base prog Hz hb s.heap) : PylongRoom (model prog w) A s := by
  obtain ⟨env, l, hf, p⟩ := h.top
  exact PylongRoom.of b.nolimit (by have := h.depth; show A.depth + 100 < _; lia) (SeerAt.of b.noseer b.tree hf p.gen p.co p.bult p.glob)

section
variable (prog : Program) (w : World) (Hz : List Addr) (hb : Heap)
noncomputable def Ev (n : Nat) (sc : Scope) (e : Expr) (m : Rho → Option V) : Prop :=
  ∀ ⦃A : Around⦄ ⦃Hz : List Addr⦄ ⦃env : Env⦄ ⦃s₀ : Shared⦄ ⦃X C : List Addr⦄ ⦃ρ : Rho⦄ ⦃O : List (String × List Addr)⦄ ⦃s : Shared⦄ ⦃v : V⦄ ⦃Q : Value → Shared → Prop⦄ ⦃E : Value → Shared → Prop⦄,
    env.scope = sc → RoomF A n → InF prog w Hz hb s₀ X env C ρ O s → m ρ = some v → (∀ u s', Keeps s s' → Rep prog w Hz s₀.heap (WW env C O) s'.heap u v → Q u s') → wpAny (model prog w) A (eval e env) Q E s
noncomputable def Tr (n : Nat) (sc : Scope) (e : Expr) (m : Rho → Option Bool) : Prop :=
  ∀ ⦃A : Around⦄ ⦃Hz : List Addr⦄ ⦃env : Env⦄ ⦃s₀ : Shared⦄ ⦃X C : List Addr⦄ ⦃ρ : Rho⦄ ⦃O : List (String × List Addr)⦄ ⦃s : Shared⦄ ⦃v : Bool⦄ ⦃Q : Bool → Shared → Prop⦄ ⦃E : Value → Shared → Prop⦄,
    env.scope = sc → RoomF A n → InF prog w Hz hb s₀ X env C ρ O s → m ρ = some v → (∀ s', Keeps s s' → Q v s') → wpAny (model prog w) A (isTrue e env (eval e env)) Q E s
noncomputable def Evs (n : Nat) (sc : Scope) (es : List Expr) (m : Rho → Option (List V)) : Prop :=
  ∀ ⦃A : Around⦄ ⦃Hz : List Addr⦄ ⦃env : Env⦄ ⦃s₀ : Shared⦄ ⦃X C : List Addr⦄ ⦃ρ : Rho⦄ ⦃O : List (String × List Addr)⦄ ⦃s : Shared⦄ ⦃vs : List V⦄ ⦃pos : Pos⦄ ⦃Q : List Value → Shared → Prop⦄ ⦃E : Value → Shared → Prop⦄,
    env.scope = sc → RoomF A n → InF prog w Hz hb s₀ X env C ρ O s → m ρ = some vs → (∀ us s', Keeps s s' → Reps prog w Hz s₀.heap (WW env C O) s'.heap us vs → Q us s') →
    wpAny (model prog w) A (spliced (backTo pos (starEach es env))) Q E s
inductive Out where
  | next (ρ : Rho)
  | brk (ρ : Rho)
  | cont (ρ : Rho)
  | ret (x : PyData)
  | retT (x : PyData) (ρ : Rho)
structure Step (h h' : Heap) (W W' : List Addr) : Prop where
  keep : ∀ b o, h.get? b = some o → b ∉ W → h'.get? b = some o
  new : ∀ a ∈ W', a ∈ W ∨ h.get? a = none
theorem Step.of_grow {h h' : Heap} {W : List Addr} (k : Grow h h') : Step h h' W W := ⟨fun b o e _ => k b o e, fun _ h => .inl h⟩
theorem Step.refl (h : Heap) (W : List Addr) : Step h h W W := Step.of_grow (Grow.refl h)
theorem Step.trans {h h' h'' : Heap} {W W' W'' : List Addr} (x : Step h h' W W') (y : Step h' h'' W' W'') : Step h h'' W W'' := by
  refine ⟨fun b o e hb => y.keep b o (x.keep b o e hb) fun hw => ?_, fun a ha => ?_⟩
  · rcases x.new b hw with q | q
    · exact hb q
    · rw [e] at q; cases q
  · rcases y.new a ha with q | q
    · exact x.new a q
    · cases e : h.get? a with
      | none => exact .inr rfl
      | some o =>
        by_cases hw : a ∈ W
        · exact .inl hw
        · rw [x.keep a o e hw] at q; cases q
noncomputable def Ends (s₀ : Shared) (X : List Addr) (env : Env) (C : List Addr) (O : List (String × List Addr)) (s : Shared) (r : Out) (Q : Flow → Shared → Prop) : Prop :=
  match r with
  | .next ρ => ∀ O' s', InS prog w Hz hb s₀ X env C ρ O' s' → Step s.heap s'.heap (WW env C O) (WW env C O') → Q .next s'
  | .brk ρ => ∀ O' s', InS prog w Hz hb s₀ X env C ρ O' s' → Step s.heap s'.heap (WW env C O) (WW env C O') → Q .brk s'
  | .cont ρ => ∀ O' s', InS prog w Hz hb s₀ X env C ρ O' s' → Step s.heap s'.heap (WW env C O) (WW env C O') → Q .cont s'
  | .ret x => ∀ u as O' ρ s', InS prog w Hz hb s₀ X env C ρ O' s' → RD prog w Hz s'.heap u x as → wf x = true → (∀ a ∈ as, a ∈ X ∨ s₀.heap.get? a = none) → Q (.ret u) s'
  | .retT x ρ => ∀ u O' s', InS prog w Hz hb s₀ X env C ρ O' s' → RD prog w Hz s'.heap u x [] → wf x = true → Q (.ret u) s'
variable {prog w Hz hb} in
theorem Ends.trans {s₀ : Shared} {X : List Addr} {env : Env} {C : List Addr} {O O' : List (String × List Addr)} {s s' : Shared} {r : Out} {Q : Flow → Shared → Prop} (k : Step s.heap s'.heap (WW env C O) (WW env C O'))
    (h : Ends prog w Hz hb s₀ X env C O s r Q) : Ends prog w Hz hb s₀ X env C O' s' r Q := by
  induction r with
  | next ρ => exact fun O'' s'' I t => h O'' s'' I (k.trans t)
  | brk ρ => exact fun O'' s'' I t => h O'' s'' I (k.trans t)
  | cont ρ => exact fun O'' s'' I t => h O'' s'' I (k.trans t)
  | ret x => exact h
  | retT x ρ => exact h
noncomputable def St (n : Nat) (sc : Scope) (ss : List Stmt) (m : Rho → Option Out) : Prop :=
  ∀ ⦃A : Around⦄ ⦃Hz : List Addr⦄ ⦃env : Env⦄ ⦃s₀ : Shared⦄ ⦃X C : List Addr⦄ ⦃ρ : Rho⦄ ⦃O : List (String × List Addr)⦄ ⦃s : Shared⦄ ⦃r : Out⦄ ⦃Q : Flow → Shared → Prop⦄ ⦃E : Value → Shared → Prop⦄,
    env.scope = sc → RoomF A n → InS prog w Hz hb s₀ X env C ρ O s → m ρ = some r → Ends prog w Hz hb s₀ X env C O s r Q → wpAny (model prog w) A (execs ss env) Q E s
noncomputable def Fn (n : Nat) (f : Addr) (m : List PyData → Option PyData) : Prop :=
  ∀ ⦃A : Around⦄ ⦃Hz : List Addr⦄ ⦃s : Shared⦄ ⦃us : List Value⦄ ⦃xs : List PyData⦄ ⦃as : List Addr⦄ ⦃y : PyData⦄ ⦃Q : Value → Shared → Prop⦄ ⦃E : Value → Shared → Prop⦄,
    Room A n → Base prog Hz hb s.heap → RDs prog w Hz s.heap us xs as → wfs xs = true → m xs = some y →
    (∀ u as s', Keeps s s' → RD prog w Hz s'.heap u y as → wf y = true → (∀ a ∈ as, s.heap.get? a = none) → Q u s') → wpAny (model prog w) A (call (.ref f) us) Q E s
end
end

section
variable {prog : Program} {w : World} {Hz : List Addr} {hb : Heap} {n : Nat} {sc : Scope}

noncomputable def isVar (sc : Scope) (x : String) : Bool := (decide (sc.names.lookup (Str.ofString x) = some .local) || decide (sc.names.lookup (Str.ofString x) = some .cell)) && !(Str.ofString x == ("__debug__" : Str))
noncomputable def rdVar : VV → Option V
  | .val v => some v
  | .own (.lst xs) => some ⟨.list xs, .t⟩
  | .own (.dct kvs) => some ⟨dictOf kvs, .t⟩
  | .own (.tree _ x) => some ⟨x, .t⟩
theorem RepVV.rd {s₀ : Heap} {W : List Addr} {O : List (String × List Addr)} {h : Heap} {x : String} {u : Value} {vv : VV} {v : V} (r : RepVV prog w Hz s₀ W O h x u vv) (e : rdVar vv = some v) : Rep prog w Hz s₀ W h u v := by
  induction vv with
  | val v' => (have e := si e; subst e; clear e); exact r.2
  | own o =>
    obtain ⟨sp, _, r⟩ := r
    induction r with
    | lst a b c d => (have e := si e; subst e; clear e); exact ⟨_, .list a b, c, trivial⟩
    | dct a g b c d => (have e := si e; subst e; clear e); exact ⟨_, .dict a g b c, d, trivial⟩
    | tree a b c _ _ => (have e := si e; subst e; clear e); exact ⟨_, a, c, trivial⟩
theorem Ev.var {x : String} {pos : Pos} (hv : isVar sc x = true) : Ev prog w hb n sc (.Name (Str.ofString x) pos) (fun ρ => (ρ x).bind rdVar) := by
  intro A Hz env s₀ X C ρ O s v Q E hs hr I hm hQ
  subst hs
  obtain ⟨vv, e1, e2⟩ := bindE hm
  simp only [isVar, Bool.and_eq_true, Bool.or_eq_true, decide_eq_true_eq, Bool.not_eq_true'] at hv
  obtain ⟨hv, hd⟩ := hv
  rcases hv with hv | hv
  · obtain ⟨m, hns, hx⟩ := I.ns
    obtain ⟨u, hu, r⟩ := hx x vv e1 hv
    exact wpAny_Name (wpAny_loadName_local I.kind hv hns hu (hQ u s (keeps_refl s) (r.rd e2))) hd
  · obtain ⟨c, u, hc, hu, r⟩ := I.cell x vv e1 hv
    exact wpAny_Name (wpAny_loadName_cell I.kind hv hc hu (hQ u s (keeps_refl s) (r.rd e2))) hd
theorem Ev.cint {i : Int} {k : Nat} {pos : Pos} : Ev prog w hb n sc (.Constant (.int i) k pos) (fun _ => some ⟨.int i, .d⟩) := by
  intro A Hz env s₀ X C ρ O s v Q E hs hr I hm hQ
  (have e := si hm; subst e; clear hm)
  exact wpAny_Constant_int (hQ _ _ (keeps_toks s _) Rep.int)
theorem Ev.cnone {k : Nat} {pos : Pos} : Ev prog w hb n sc (.Constant .none k pos) (fun _ => some ⟨.none, .d⟩) := by
  intro A Hz env s₀ X C ρ O s v Q E hs hr I hm hQ
  (have e := si hm; subst e; clear hm)
  exact wpAny_Constant_none (hQ _ _ (keeps_refl s) Rep.none)
theorem Ev.cbool {b : Bool} {k : Nat} {pos : Pos} : Ev prog w hb n sc (.Constant (.bool b) k pos) (fun _ => some ⟨.bool b, .d⟩) := by
  intro A Hz env s₀ X C ρ O s v Q E hs hr I hm hQ
  (have e := si hm; subst e; clear hm)
  exact wpAny_Constant_bool (hQ _ _ (keeps_refl s) Rep.bool)
theorem Ev.cstr {x : Str} {k : Nat} {pos : Pos} (hx : wf (.str x) = true) : Ev prog w hb n sc (.Constant (.str x) k pos) (fun _ => some ⟨.str x, .d⟩) := by
  intro A Hz env s₀ X C ρ O s v Q E hs hr I hm hQ
  (have e := si hm; subst e; clear hm)
  exact wpAny_Constant_str (hQ _ _ (keeps_toks s _) (Rep.str hx))

noncomputable def smallInt (a : Int) : Bool := decide (Builtin.Int.intBits a ≤ 64)
noncomputable def addD : PyData → PyData → Option PyData
  | .int a, .int b => some (.int (a + b))
  | .str x, .str y => if x.length + y.length ≤ sizeLine then some (.str (x ++ y)) else none
  | .list xs, .list ys => if xs.length + ys.length ≤ sizeLine then some (.list (xs ++ ys)) else none
  | _, _ => none
noncomputable def mulD : PyData → PyData → Option PyData
  | .int a, .int b => if smallInt a || smallInt b then some (.int (a * b)) else none
  | .str x, .int k => if k = 0 then some (.str Str.empty) else if k = 1 then some (.str x) else none
  | _, _ => none
noncomputable def intsD (f : Int → Int → Option Int) : PyData → PyData → Option PyData
  | .int a, .int b => (f a b).map .int
  | _, _ => none
noncomputable def aBin (op : Operator) (x y : PyData) : Option PyData := match op with
  | .Add => addD x y
  | .Sub => intsD (fun a b => some (a - b)) x y
  | .Mult => mulD x y
  | .FloorDiv => intsD (fun a b => if b = 0 then none else some (a.fdiv b)) x y
  | .Mod => intsD (fun a b => if b = 0 then none else some (a.fmod b)) x y
  | _ => none
inductive IntsI (f : Int → Int → Option Int) : PyData → PyData → PyData → Prop
  | mk (a b c : Int) (h : f a b = some c) : IntsI f (.int a) (.int b) (.int c)
inductive AddI : PyData → PyData → PyData → Prop
  | int (a b : Int) : AddI (.int a) (.int b) (.int (a + b))
  | str (a b : Str) (h : a.length + b.length ≤ sizeLine) : AddI (.str a) (.str b) (.str (a ++ b))
  | list (a b : List PyData) (h : a.length + b.length ≤ sizeLine) : AddI (.list a) (.list b) (.list (a ++ b))
inductive MulI : PyData → PyData → PyData → Prop
  | int (a b : Int) (h : (smallInt a || smallInt b) = true) : MulI (.int a) (.int b) (.int (a * b))
  | zero (a : Str) : MulI (.str a) (.int 0) (.str Str.empty)
  | one (a : Str) : MulI (.str a) (.int 1) (.str a)
theorem intsD_some {f : Int → Int → Option Int} {x y z : PyData} (h : intsD f x y = some z) : IntsI f x y z := by
  cases x with
  | int a => cases y with
    | int b => induction mapE (o := f a b) h with | mk c h1 => ?_; exact ⟨a, b, c, h1⟩
    | _ => exact no h
  | _ => exact no h
theorem addD_some {x y z : PyData} (h : addD x y = some z) : AddI x y z := by
  cases x with
  | int a => cases y with
    | int b => (have e := si h; subst e; clear h); exact .int a b
    | _ => exact no h
  | str a => cases y with
    | str b => exact ifI (c := a.length + b.length ≤ sizeLine) (o := some (PyData.str (a ++ b))) (fun hz h => by (have e := si h; subst e; clear h); exact .str a b hz) h
    | _ => exact no h
  | list a => cases y with
    | list b => exact ifI (c := a.length + b.length ≤ sizeLine) (o := some (PyData.list (a ++ b))) (fun hz h => by (have e := si h; subst e; clear h); exact .list a b hz) h
    | _ => exact no h
  | _ => exact no h
theorem mulD_some {x y z : PyData} (h : mulD x y = some z) : MulI x y z := by
  cases x with
  | int a => cases y with
    | int b => exact ifI (c := (smallInt a || smallInt b) = true) (o := some (PyData.int (a * b))) (fun hz h => by (have e := si h; subst e; clear h); exact .int a b hz) h
    | _ => exact no h
  | str a => cases y with
    | int k =>
      by_cases h0 : k = 0
      · subst h0; (have e := si h; subst e; clear h); exact .zero a
      · replace h : (if k = 1 then some (PyData.str a) else none) = some z := (if_neg h0).symm.trans h
        revert h
        refine ifI fun h1 h => ?_
        subst h1; (have e := si h; subst e; clear h); exact .one a
    | _ => exact no h
  | _ => exact no h
noncomputable def Fl.join : Fl → Fl → Fl
  | .d, .d => .d
  | .t, _ => .t
  | _, .t => .t
  | _, _ => .s
noncomputable def V.newL (xs : List PyData) (f : Fl) : V := ⟨.list xs, if flats xs then .d else f⟩
noncomputable def aBinV (op : Operator) (a b : V) : Option V :=
  (aBin op a.x b.x).map fun x => match x with
    | .list xs => V.newL xs (a.fl.join b.fl)
    | x => ⟨x, .d⟩
theorem FlOk.join_l {s₀ : Heap} {W : List Addr} {f g : Fl} {as : List Addr} (h : FlOk s₀ W f as) : FlOk s₀ W (f.join g) as := by
  cases f <;> cases g <;> first | exact h | trivial | exact fun a ha => (h a ha).2
theorem FlOk.join_r {s₀ : Heap} {W : List Addr} {f g : Fl} {as : List Addr} (h : FlOk s₀ W g as) : FlOk s₀ W (f.join g) as := by
  cases f <;> cases g <;> first | exact h | trivial | exact fun a ha => (h a ha).2
section
variable {A : Around} {env : Env} {s₀ : Shared} {X C : List Addr} {ρ : Rho} {O : List (String × List Addr)} {s : Shared} {E : Value → Shared → Prop}
theorem InF.newL (I : InF prog w Hz hb s₀ X env C ρ O s) {vs : List Value} {xs : List PyData} {as : List Addr} {f : Fl} (r : RDs prog w Hz s.heap vs xs as) (c : wf (.list xs) = true) (o : FlOk s₀.heap (WW env C O) f as) {m : Nat} :
    Rep prog w Hz s₀.heap (WW env C O) (s.heap.push (lstObj vs m)) (.ref s.heap.objs.size) (V.newL xs f) := by
  have k := Grow.push s.heap (lstObj vs m)
  refine ⟨s.heap.objs.size :: as, .list (Heap.get?_push_size _ rfl) (r.grow k), c, ?_⟩
  have z := I.size_fresh
  cases e : flats xs with
  | true =>
    rw [r.flat_foot e]
    simp only [V.newL, e, if_true]
    intro a ha
    rw [List.mem_singleton.mp ha]; exact z
  | false =>
    simp only [V.newL, e, Bool.false_eq_true, if_false]
    induction f with
    | d => exact fun a ha => (List.mem_cons.mp ha).elim (fun q => q ▸ z) (o a)
    | s => exact fun a ha => (List.mem_cons.mp ha).elim (fun q => q ▸ z.2) (o a)
    | t => trivial
theorem InF.newT (I : InF prog w Hz hb s₀ X env C ρ O s) {vs : List Value} {xs : List PyData} {as : List Addr} {f : Fl} (r : RDs prog w Hz s.heap vs xs as) (c : wf (.tuple xs) = true) (o : FlOk s₀.heap (WW env C O) f as) {m : Nat} :
    Rep prog w Hz s₀.heap (WW env C O) (s.heap.push (tupObj vs m)) (.ref s.heap.objs.size) (V.fix (.tuple xs) f) :=
  let _ := I
  Rep.fixed (.tuple (Heap.get?_push_size _ rfl) (fun hm => by obtain ⟨_, o, e, _⟩ := I.base.hide _ hm; exact absurd (Heap.lt_size e) (Nat.lt_irrefl _)) (r.grow (Grow.push s.heap (tupObj vs m)))) c o
theorem strOk_append {x y : Str} (hx : PyData.strOk x = true) (hy : PyData.strOk y = true) : PyData.strOk (x ++ y) = true := by
  unfold PyData.strOk at *
  rw [Str.cps_append, Array.all_append, hx, hy]; rfl
theorem str_empty_of {x : Str} (h : (x.length == 0) = true) : x = Str.empty := by
  obtain ⟨c⟩ := x
  have : c = #[] := by simpa [Str.length] using h
  rw [this]; rfl
theorem wf_str {x : Str} : wf (.str x) = true ↔ PyData.strOk x = true ∧ x.length ≤ sizeLine := by simp [wf]
theorem wf_list {xs : List PyData} : wf (.list xs) = true ↔ xs.length ≤ sizeLine ∧ wfs xs = true := by simp [wf]
theorem wf_tuple {xs : List PyData} : wf (.tuple xs) = true ↔ xs.length ≤ sizeLine ∧ wfs xs = true := by simp [wf]
theorem wf_empty : wf (.str Str.empty) = true := by decide +kernel
theorem made_str_append {x y : Str} {t u : Tok} {Q : Value → Shared → Prop} (hz : x.length + y.length ≤ sizeLine) (h : ∀ v tk, v = .str (x ++ y) tk → ∀ s', Keeps s s' → Q v s') :
    (if x.length == 0 then Made.val (.str y u) else if y.length == 0 then Made.val (.str x t) else Made.str (x ++ y)).post Q s := by
  split
  · rename_i e
    have : x ++ y = y := by rw [str_empty_of e, Str.empty_append]
    rw [← this]
    exact h _ _ rfl _ (keeps_refl s)
  · split
    · rename_i e
      have : x ++ y = x := by rw [str_empty_of e, Str.append_empty]
      rw [← this]
      exact h _ _ rfl _ (keeps_refl s)
    · exact ⟨by rw [Str.length_append]; exact hz, h _ _ rfl _ (keeps_toks s _)⟩
theorem bin_ok {op : Operator} {a b v : V} {u₁ u₂ : Value} {Q : Value → Shared → Prop} (hr : RoomF A n) (I : InF prog w Hz hb s₀ X env C ρ O s) (h : aBinV op a b = some v)
    (r₁ : Rep prog w Hz s₀.heap (WW env C O) s.heap u₁ a) (r₂ : Rep prog w Hz s₀.heap (WW env C O) s.heap u₂ b) (hQ : ∀ u s', Keeps s s' → Rep prog w Hz s₀.heap (WW env C O) s'.heap u v → Q u s') :
    wpAny (model prog w) A (binaryOp op u₁ u₂) Q E s := by
  obtain ⟨x, hx, hv⟩ := Option.map_eq_some_iff.mp h
  obtain ⟨ax, af⟩ := a
  obtain ⟨bx, bf⟩ := b
  obtain ⟨as, ra, ca, oa⟩ := r₁
  obtain ⟨bs, rb, cb, ob⟩ := r₂
  dsimp only at hx ra rb ca cb oa ob hv
  clear h
  have hi : ∀ {c : Int}, (match (PyData.int c) with | .list xs => V.newL xs (af.join bf) | x => ⟨x, .d⟩) = v → ∀ s', Keeps s s' → ∀ t, Q (.int c t) s' := by
    rintro c rfl s' k t
    exact hQ _ _ k Rep.int
  induction op with
  | Add =>
    induction addD_some hx with
    | int a b =>
      induction ra.intI with | mk t => ?_
      induction rb.intI with | mk t' => ?_
      exact P.add_int (hi hv _ (keeps_toks s _) _)
    | str a b hz =>
      induction ra.strI with | mk t => ?_
      induction rb.strI with | mk t' => ?_
      subst hv
      rw [wf_str] at ca cb
      refine P.add_str (made_str_append hz fun v tk e s' k => ?_)
      subst e
      exact hQ _ _ k (Rep.str (wf_str.mpr ⟨strOk_append ca.1 cb.1, by rw [Str.length_append]; exact hz⟩))
    | list a b hz =>
      induction ra.listI with | mk d us m cs a1 a2 => ?_
      induction rb.listI with | mk d' us' m' cs' b1 b2 => ?_
      subst hv
      rw [wf_list] at ca cb
      refine P.add_list a1 b1 ?_ (by simpa [a2.length, b2.length] using hz)
      rw [List.append_toArray]
      refine hQ _ _ (keeps_push s _) (I.newL (a2.append b2) (wf_list.mpr ⟨by simpa using hz, by rw [wfs_append, ca.2, cb.2]; rfl⟩) ?_)
      exact FlOk.append ((oa.mono fun a h => .tail _ h).join_l) ((ob.mono fun a h => .tail _ h).join_r)
  | Sub =>
    induction intsD_some hx with | mk a b c e => ?_
    (have e := si e; subst e; clear e)
    have H := ra.intI; clear ra; induction H with | mk t => ?_
    have H := rb.intI; clear rb; induction H with | mk t' => ?_
    exact P.sub_int (hi hv _ (keeps_toks s _) _)
  | Mult =>
    induction mulD_some hx with
    | int a b hs =>
      induction ra.intI with | mk t => ?_
      induction rb.intI with | mk t' => ?_
      refine P.mul_int (hi hv _ (keeps_toks s _) _) ?_
      simp only [smallInt, Bool.or_eq_true, decide_eq_true_eq] at hs
      exact hs.elim IntMulOk.of_left IntMulOk.of_right
    | zero a =>
      induction ra.strI with | mk t => ?_
      induction rb.intI with | mk t' => ?_
      subst hv
      exact P.mul_str_none (Int.le_refl 0) (by decide) (hQ _ _ (keeps_toks s _) (Rep.str wf_empty))
    | one a =>
      induction ra.strI with | mk t => ?_
      induction rb.intI with | mk t' => ?_
      subst hv
      refine P.mul_str (by decide) (fun _ e => by simp at e) (fun _ e => by simp at e) ?_
      exact hQ _ _ (keeps_refl s) (Rep.str ca)
  | FloorDiv =>
    induction intsD_some hx with | mk a b c e => ?_
    induction ra.intI with | mk t => ?_
    induction rb.intI with | mk t' => ?_
    by_cases hz : b = 0
    · rw [if_pos hz] at e; exact no e
    · rw [if_neg hz] at e; (have e := si e; subst e; clear e)
      exact PyProof.Rows.floordiv_int hz (hi hv _ (keeps_toks s _) _) (.inr (hr.pylong I.base))
  | Mod =>
    induction intsD_some hx with | mk a b c e => ?_
    induction ra.intI with | mk t => ?_
    induction rb.intI with | mk t' => ?_
    by_cases hz : b = 0
    · rw [if_pos hz] at e; exact no e
    · rw [if_neg hz] at e; (have e := si e; subst e; clear e)
      exact PyProof.Rows.mod_int' hz (hi hv _ (keeps_toks s _) _)
  | _ => exact no hx

noncomputable def aTruth : PyData → Option Bool
  | .none => some false
  | .bool b => some b
  | .int i => some (i != 0)
  | .str x => some ((x.length : Int) != 0)
  | .list xs => some (!xs.isEmpty)
  | _ => none
theorem sizeLine_small : (sizeLine : Int) < 2 ^ 63 := by decide
theorem isEmpty_len {α β : Type} {xs : List α} {ys : List β} (h : xs.length = ys.length) : xs.isEmpty = ys.isEmpty := by
  cases xs <;> cases ys <;> simp_all
theorem truth_ok {a : V} {b : Bool} {u : Value} {Q : Bool → Shared → Prop} {W : List Addr} {s₀ : Heap} (h : aTruth a.x = some b) (r : Rep prog w Hz s₀ W s.heap u a) (hQ : ∀ s', Keeps s s' → Q b s') :
    wpAny (model prog w) A (truthy u) Q E s := by
  obtain ⟨ax, af⟩ := a
  obtain ⟨as, ra, ca, oa⟩ := r
  dsimp only at h ra ca oa
  cases ax with
  | none => (have e := si h; subst e; clear h); cases ra.none_inv; exact fun _ _ _ => hQ _ (keeps_refl s)
  | bool b => (have e := si h; subst e; clear h); cases ra.bool_inv; exact wpAny_truthy_bool (hQ _ (keeps_refl s))
  | int i => (have e := si h; subst e; clear h); induction ra.intI with | mk t => ?_; exact P.truthy_int (hQ _ (keeps_refl s))
  | str x =>
    (have e := si h; subst e; clear h)
    induction ra.strI with | mk t => ?_
    rw [wf_str] at ca
    exact P.truthy_str (by have := sizeLine_small; have := ca.2; lia) (hQ _ (keeps_toks s _))
  | list xs =>
    (have e := si h; subst e; clear h)
    have H := ra.listI; clear ra; induction H with | mk d us m cs a1 a2 => ?_
    rw [wf_list] at ca
    have hl := a2.length
    refine wpAny_truthy_list ⟨_, a1, rfl, _, rfl⟩ (by have := sizeLine_small; have := ca.1; simp; lia) ?_
    rw [List.isEmpty_toArray, isEmpty_len hl]
    exact hQ _ (keeps_toks s _)
  | _ => exact no h
noncomputable def isNone : PyData → Bool
  | .none => true
  | _ => false
noncomputable def hasKey (k : Str) : List (PyData × PyData) → Bool
  | [] => false
  | (.str x, _) :: r => decide (x = k) || hasKey k r
  | _ :: r => hasKey k r
noncomputable def cmpI (f : Int → Int → Bool) : PyData → PyData → Option Bool
  | .int a, .int b => some (f a b)
  | _, _ => none
noncomputable def cmpE (x y : PyData) : Option Bool := if nd x && nd y && decide (min x.depth y.depth ≤ 60) then some (PyData.eqv x y) else none
noncomputable def cmpN (x y : PyData) : Option Bool := match y with
  | .none => some (isNone x)
  | _ => none
noncomputable def inSeq (x : PyData) (ys : List PyData) : Option Bool := if nd x && nds ys && decide (min (PyData.depthAll ys) x.depth ≤ 60) then some (ys.any fun y => PyData.eqv y x) else none
noncomputable def keyOf : PyData → Option Str
  | .str k => some k
  | _ => none
noncomputable def inD (k : Str) (kvs : List (PyData × PyData)) : Option Bool := if plainK kvs = true then some (hasKey k kvs) else none
theorem inD_map {α : Type} (f : α → Str) (g : α → PyData) (k : Str) (xs : List α) : inD k (xs.map fun p => (.str (f p), g p)) = some (hasKey k (xs.map fun p => (.str (f p), g p))) := if_pos (plainK_map f g xs)
noncomputable def cmpIn (x y : PyData) : Option Bool := match y with
  | .list ys => inSeq x ys
  | .tuple ys => inSeq x ys
  | .dict kvs => (keyOf x).bind fun k => inD k kvs
  | .str s => (keyOf x).map fun k => !(Builtin.Str.occurrences s k 0 s.length 1).isEmpty
  | _ => none
noncomputable def aCmp (op : CmpOp) (x y : PyData) : Option Bool := match op with
  | .Lt => cmpI (fun a b => decide (a < b)) x y
  | .LtE => cmpI (fun a b => decide (a ≤ b)) x y
  | .Gt => cmpI (fun a b => decide (a > b)) x y
  | .GtE => cmpI (fun a b => decide (a ≥ b)) x y
  | .Eq => cmpE x y
  | .NotEq => (cmpE x y).map (!·)
  | .Is => cmpN x y
  | .IsNot => (cmpN x y).map (!·)
  | .In => cmpIn x y
  | .NotIn => (cmpIn x y).map (!·)
inductive CmpII (f : Int → Int → Bool) : PyData → PyData → Bool → Prop
  | mk (a b : Int) : CmpII f (.int a) (.int b) (f a b)
theorem cmpI_some {f : Int → Int → Bool} {x y : PyData} {c : Bool} (h : cmpI f x y = some c) : CmpII f x y c := by
  cases x with
  | int a => cases y with
    | int b => (have e := si h; subst e; clear h); exact ⟨a, b⟩
    | _ => exact no h
  | _ => exact no h
theorem cmpE_some {x y : PyData} {c : Bool} (h : cmpE x y = some c) : nd x = true ∧ nd y = true ∧ min x.depth y.depth ≤ 60 ∧ c = PyData.eqv x y := by
  unfold cmpE at h
  split at h
  · rename_i hc
    simp only [Bool.and_eq_true, decide_eq_true_eq] at hc
    exact ⟨hc.1.1, hc.1.2, hc.2, (Option.some.inj h).symm⟩
  · exact no h
inductive CmpNI (x : PyData) : PyData → Bool → Prop
  | mk : CmpNI x .none (isNone x)
theorem cmpN_some {x y : PyData} {c : Bool} (h : cmpN x y = some c) : CmpNI x y c := by
  cases y with
  | none => (have e := si h; subst e; clear h); exact ⟨⟩
  | _ => exact no h
theorem inSeq_some {x : PyData} {ys : List PyData} {c : Bool} (h : inSeq x ys = some c) : nd x = true ∧ nds ys = true ∧ min (PyData.depthAll ys) x.depth ≤ 60 ∧ c = ys.any fun y => PyData.eqv y x := by
  unfold inSeq at h
  split at h
  · rename_i hc
    simp only [Bool.and_eq_true, decide_eq_true_eq] at hc
    exact ⟨hc.1.1, hc.1.2, hc.2, (Option.some.inj h).symm⟩
  · exact no h
theorem keyOf_some {x : PyData} {k : Str} (h : keyOf x = some k) : x = .str k := by
  cases x with
  | str s => (have e := si h; subst e; clear h); rfl
  | _ => exact no h
inductive InI : PyData → PyData → Bool → Prop
  | list (x : PyData) (ys : List PyData) (c : Bool) (h : inSeq x ys = some c) : InI x (.list ys) c
  | tuple (x : PyData) (ys : List PyData) (c : Bool) (h : inSeq x ys = some c) : InI x (.tuple ys) c
  | dict (k : Str) (kvs : List (PyData × PyData)) (h : plainK kvs = true) : InI (.str k) (.dict kvs) (hasKey k kvs)
  | str (k s : Str) : InI (.str k) (.str s) (!(Builtin.Str.occurrences s k 0 s.length 1).isEmpty)
theorem cmpIn_some {x y : PyData} {c : Bool} (h : cmpIn x y = some c) : InI x y c := by
  cases y with
  | list ys => exact .list x ys c h
  | tuple ys => exact .tuple x ys c h
  | dict kvs =>
    revert h
    refine bindI fun k h1 => ifI fun hp h => ?_
    obtain rfl := keyOf_some h1
    (have e := si h; subst e; clear h); exact .dict k kvs hp
  | str s =>
    induction mapE (o := keyOf x) h with | mk k h1 => ?_
    obtain rfl := keyOf_some h1
    exact .str k s
  | _ => exact no h
theorem RD.isNone_eq {h : Heap} {u : Value} {x : PyData} {as : List Addr} (r : RD prog w Hz h u x as) : (u == .none) = isNone x := by
  cases r <;> rfl
theorem hasKey_dictOf (k : Str) : ∀ {kvs : List (Str × Value)} {xs : List (Str × PyData)}, kvs.map (·.1) = xs.map (·.1) → hasKey k (xs.map fun p => (.str p.1, p.2)) = (valueAt kvs k).isSome
  | [], [], _ => rfl
  | [], _ :: _, h => by simp at h
  | _ :: _, [], h => by simp at h
  | (a, v) :: kvs, (b, x) :: xs, h => by
    simp only [List.map_cons, List.cons.injEq] at h
    obtain ⟨rfl, h⟩ := h
    simp only [List.map_cons, hasKey, hasKey_dictOf k h, valueAt, List.find?_cons]
    by_cases e : a = k <;> simp [e]
theorem strKey (x : Str) (t : Tok) : (strKind prog w).is x (.str x t) = true := by simp [strKind, Value.isStrOf]
theorem cmp_ok {op : CmpOp} {a b : V} {c : Bool} {u₁ u₂ : Value} {Q : Value → Shared → Prop} (hr : RoomF A n) {W : List Addr} {s₀ : Heap} (h : aCmp op a.x b.x = some c)
    (r₁ : Rep prog w Hz s₀ W s.heap u₁ a) (r₂ : Rep prog w Hz s₀ W s.heap u₂ b) (hQ : ∀ s', Keeps s s' → Q (.bool c) s') :
    wpAny (model prog w) A (compareOp op u₁ u₂) Q E s := by
  obtain ⟨ax, af⟩ := a
  obtain ⟨bx, bf⟩ := b
  obtain ⟨as, ra, ca, oa⟩ := r₁
  obtain ⟨bs, rb, cb, ob⟩ := r₂
  have hu := hr.units
  dsimp only at h ra rb ca cb oa ob
  clear oa ob hr
  induction op with
  | Lt =>
    induction cmpI_some h with | mk a b => ?_
    induction ra.intI with | mk t => ?_
    induction rb.intI with | mk t' => ?_
    exact P.lt_int (hQ _ (keeps_refl s))
  | LtE =>
    induction cmpI_some h with | mk a b => ?_
    induction ra.intI with | mk t => ?_
    induction rb.intI with | mk t' => ?_
    exact P.le_int (hQ _ (keeps_refl s))
  | Gt =>
    induction cmpI_some h with | mk a b => ?_
    induction ra.intI with | mk t => ?_
    induction rb.intI with | mk t' => ?_
    exact P.gt_int (hQ _ (keeps_refl s))
  | GtE =>
    induction cmpI_some h with | mk a b => ?_
    induction ra.intI with | mk t => ?_
    induction rb.intI with | mk t' => ?_
    exact P.ge_int (hQ _ (keeps_refl s))
  | Eq =>
    obtain ⟨n1, n2, n3, rfl⟩ := cmpE_some h
    have c1 := can_of _ ca n1
    have c2 := can_of _ cb n2
    exact SeqAt.compareEq_reads (ra.reads c1) (rb.reads c2) c1 c2 (by lia) (hQ _ (keeps_refl s))
  | NotEq =>
    induction mapE h with | mk c' hc => ?_
    obtain ⟨n1, n2, n3, rfl⟩ := cmpE_some hc
    have c1 := can_of _ ca n1
    have c2 := can_of _ cb n2
    exact SeqAt.compareNe_reads (ra.reads c1) (rb.reads c2) c1 c2 (by lia) (hQ _ (keeps_refl s))
  | Is =>
    induction cmpN_some h
    cases rb.none_inv
    refine is_none ?_
    rw [ra.isNone_eq]; exact hQ _ (keeps_refl s)
  | IsNot =>
    induction mapE h with | mk c' hc => ?_
    induction cmpN_some hc
    cases rb.none_inv
    refine isNot_none ?_
    rw [ra.isNone_eq]; exact hQ _ (keeps_refl s)
  | In =>
    have hc : cmpIn ax bx = some c := h
    clear h
    induction cmpIn_some hc with
    | list _ ys _ hc =>
      obtain ⟨n1, n2, n3, rfl⟩ := inSeq_some hc
      have c1 := can_of _ ca n1
      have c2 := cans_of _ (wf_list.mp cb).2 n2
      exact SeqAt.in_list_reads (rb.reads (by simpa [PyData.canLay0] using c2)) (ra.reads c1) c2 c1 (by lia) (hQ _ (keeps_refl s))
    | tuple _ ys _ hc =>
      obtain ⟨n1, n2, n3, rfl⟩ := inSeq_some hc
      have c1 := can_of _ ca n1
      have c2 := cans_of _ (wf_tuple.mp cb).2 n2
      exact SeqAt.in_tuple_reads (rb.reads (by simpa [PyData.canLay0] using c2)) (ra.reads c1) c2 c1 (by lia) (hQ _ (keeps_refl s))
    | dict k kvs hpk =>
      induction ra.strI with | mk t => ?_
      induction rb.dictI hpk with | mk d ks xs es b1 b2 b3 b4 => ?_
      refine wpAny_in_of (strKey _ _) b2 b1.mapOf ?_
      rw [← hasKey_dictOf _ b3]
      exact hQ _ (keeps_toks s _)
    | str k z =>
      induction ra.strI with | mk t => ?_
      induction rb.strI with | mk t' => ?_
      exact P.in_str (hQ _ (keeps_refl s))
  | NotIn =>
    induction mapE (o := cmpIn ax bx) h with | mk c' hc => ?_
    clear h
    induction cmpIn_some hc with
    | list _ ys _ hc =>
      obtain ⟨n1, n2, n3, rfl⟩ := inSeq_some hc
      have c1 := can_of _ ca n1
      have c2 := cans_of _ (wf_list.mp cb).2 n2
      exact SeqAt.notIn_list_reads (rb.reads (by simpa [PyData.canLay0] using c2)) (ra.reads c1) c2 c1 (by lia) (hQ _ (keeps_refl s))
    | tuple _ ys _ hc =>
      obtain ⟨n1, n2, n3, rfl⟩ := inSeq_some hc
      have c1 := can_of _ ca n1
      have c2 := cans_of _ (wf_tuple.mp cb).2 n2
      exact SeqAt.notIn_tuple_reads (rb.reads (by simpa [PyData.canLay0] using c2)) (ra.reads c1) c2 c1 (by lia) (hQ _ (keeps_refl s))
    | dict k kvs hpk =>
      induction ra.strI with | mk t => ?_
      induction rb.dictI hpk with | mk d ks xs es b1 b2 b3 b4 => ?_
      refine wpAny_notIn_of (strKey _ _) b2 b1.mapOf ?_
      rw [← hasKey_dictOf _ b3]
      exact hQ _ (keeps_toks s _)
    | str k z =>
      induction ra.strI with | mk t => ?_
      induction rb.strI with | mk t' => ?_
      exact P.notIn_str (hQ _ (keeps_refl s))
end

theorem Ev.bin {l r : Expr} {op : Operator} {pos : Pos} {ml mr : Rho → Option V} (hl : Ev prog w hb n sc l ml) (hr : Ev prog w hb n sc r mr) :
    Ev prog w hb n sc (.BinOp l op r pos) (fun ρ => do let a ← ml ρ; let b ← mr ρ; aBinV op a b) := by
  intro A Hz env s₀ X C ρ O s v Q E hs hA I
  refine bindI fun a ha => bindI fun b hb' hm hQ => ?_
  refine wpAny_BinOp (hl hs hA I ha fun u s₁ k₁ r₁ => hr hs hA (I.grow k₁) hb' fun u' s₂ k₂ r₂ => ?_)
  exact bin_ok hA ((I.grow k₁).grow k₂) hm (r₁.grow (keeps_grow k₂)) r₂ fun u s' k r => hQ u s' (keeps_trans k₁ (keeps_trans k₂ k)) r
theorem Ev.cmp {l r : Expr} {op : CmpOp} {pos : Pos} {ml mr : Rho → Option V} (hl : Ev prog w hb n sc l ml) (hr : Ev prog w hb n sc r mr) (hk : behindInMarks op r = false) :
    Ev prog w hb n sc (.Compare l [op] [r] pos) (fun ρ => do let a ← ml ρ; let b ← mr ρ; let c ← aCmp op a.x b.x; some ⟨.bool c, .d⟩) := by
  intro A Hz env s₀ X C ρ O s v Q E hs hA I
  refine bindI fun a ha => bindI fun b hb' => bindI fun c hc hm hQ => ?_
  (have e := si hm; subst e; clear hm)
  refine wpAny_Compare1 (hl hs hA I ha fun u s₁ k₁ r₁ => hr hs hA (I.grow k₁) hb' fun u' s₂ k₂ r₂ => ?_) hk
  exact cmp_ok hA hc (r₁.grow (keeps_grow k₂)) r₂ fun s' k => hQ _ s' (keeps_trans k₁ (keeps_trans k₂ k)) Rep.bool
theorem Tr.cmp {l r : Expr} {op : CmpOp} {pos : Pos} {ml mr : Rho → Option V} (hl : Ev prog w hb n sc l ml) (hr : Ev prog w hb n sc r mr) (hk : behindInMarks op r = false := by rfl) :
    Tr prog w hb n sc (.Compare l [op] [r] pos) (fun ρ => do let a ← ml ρ; let b ← mr ρ; aCmp op a.x b.x) := by
  intro A Hz env s₀ X C ρ O s v Q E hs hA I
  refine bindI fun a ha => bindI fun b hb' hm hQ => ?_
  refine wpAny_isTrue_Compare1 (hl hs hA I ha fun u s₁ k₁ r₁ => hr hs hA (I.grow k₁) hb' fun u' s₂ k₂ r₂ => ?_) hk
  exact cmp_ok hA hm (r₁.grow (keeps_grow k₂)) r₂ fun s' k => wpAny_truthy_bool (hQ s' (keeps_trans k₁ (keeps_trans k₂ k)))
theorem Tr.val {e : Expr} {m : Rho → Option V} (h : Ev prog w hb n sc e m) (he : ∀ env whole, isTrue e env whole = (do let v ← whole; standAt e.pos; holding [v] (truthy v))) :
    Tr prog w hb n sc e (fun ρ => do let a ← m ρ; aTruth a.x) := by
  intro A Hz env s₀ X C ρ O s v Q E hs hA I
  refine bindI fun a ha hm hQ => ?_
  exact wpAny_isTrue_value (h hs hA I ha fun u s₁ k₁ r₁ => truth_ok hm r₁ fun s' k => hQ s' (keeps_trans k₁ k)) (he _ _)
theorem Tr.not {e : Expr} {pos : Pos} {m : Rho → Option Bool} (h : Tr prog w hb n sc e m) : Tr prog w hb n sc (.UnaryOp .Not e pos) (fun ρ => (m ρ).map (!·)) := by
  intro A Hz env s₀ X C ρ O s v Q E hs hA I hm hQ
  induction mapE hm with | mk b hb' => ?_
  exact wpAny_isTrue_Not (h hs hA I hb' fun s' k => hQ s' k)
noncomputable def Trs (prog : Program) (w : World) (hb : Heap) (n : Nat) (sc : Scope) (op : BoolOp) (es : List Expr) (m : Rho → Option Bool) : Prop :=
  ∀ ⦃A : Around⦄ ⦃Hz : List Addr⦄ ⦃env : Env⦄ ⦃s₀ : Shared⦄ ⦃X C : List Addr⦄ ⦃ρ : Rho⦄ ⦃O : List (String × List Addr)⦄ ⦃s : Shared⦄ ⦃v : Bool⦄ ⦃Q : Bool → Shared → Prop⦄ ⦃E : Value → Shared → Prop⦄,
    env.scope = sc → RoomF A n → InF prog w Hz hb s₀ X env C ρ O s → m ρ = some v → (∀ s', Keeps s s' → Q v s') → wpAny (model prog w) A (allTrue op es env) Q E s
theorem Trs.nilAnd : Trs prog w hb n sc .And [] (fun _ => some true) := by
  intro A Hz env s₀ X C ρ O s v Q E hs hA I hm hQ
  (have e := si hm; subst e; clear hm); exact wpAny_allTrue_And_nil (hQ s (keeps_refl s))
theorem Trs.nilOr : Trs prog w hb n sc .Or [] (fun _ => some false) := by
  intro A Hz env s₀ X C ρ O s v Q E hs hA I hm hQ
  (have e := si hm; subst e; clear hm); exact wpAny_allTrue_Or_nil (hQ s (keeps_refl s))
theorem Trs.consAnd {e : Expr} {es : List Expr} {m ms : Rho → Option Bool} (h : Tr prog w hb n sc e m) (hs' : Trs prog w hb n sc .And es ms) :
    Trs prog w hb n sc .And (e :: es) (fun ρ => do let b ← m ρ; if b then ms ρ else some false) := by
  intro A Hz env s₀ X C ρ O s v Q E hs hA I
  refine bindI fun b hb' hm hQ => ?_
  refine wpAny_allTrue_And_cons (h hs hA I hb' fun s₁ k₁ => ?_)
  cases b with
  | true => exact hs' hs hA (I.grow k₁) hm fun s' k => hQ s' (keeps_trans k₁ k)
  | false => (have e := si hm; subst e; clear hm); exact hQ s₁ k₁
theorem Trs.consOr {e : Expr} {es : List Expr} {m ms : Rho → Option Bool} (h : Tr prog w hb n sc e m) (hs' : Trs prog w hb n sc .Or es ms) :
    Trs prog w hb n sc .Or (e :: es) (fun ρ => do let b ← m ρ; if b then some true else ms ρ) := by
  intro A Hz env s₀ X C ρ O s v Q E hs hA I
  refine bindI fun b hb' hm hQ => ?_
  refine wpAny_allTrue_Or_cons (h hs hA I hb' fun s₁ k₁ => ?_)
  cases b with
  | false => exact hs' hs hA (I.grow k₁) hm fun s' k => hQ s' (keeps_trans k₁ k)
  | true => (have e := si hm; subst e; clear hm); exact hQ s₁ k₁
theorem Tr.all {op : BoolOp} {es : List Expr} {pos : Pos} {m : Rho → Option Bool} (h : Trs prog w hb n sc op es m) : Tr prog w hb n sc (.BoolOp op es pos) m := by
  intro A Hz env s₀ X C ρ O s v Q E hs hA I hm hQ
  exact wpAny_isTrue_BoolOp (h hs hA I hm hQ)
theorem Ev.not {e : Expr} {pos : Pos} {m : Rho → Option V} (h : Ev prog w hb n sc e m) : Ev prog w hb n sc (.UnaryOp .Not e pos) (fun ρ => do let a ← m ρ; let b ← aTruth a.x; some ⟨.bool (!b), .d⟩) := by
  intro A Hz env s₀ X C ρ O s v Q E hs hA I
  refine bindI fun a ha => bindI fun b hb' hm hQ => ?_
  (have e := si hm; subst e; clear hm)
  exact wpAny_UnaryOp (h hs hA I ha fun u s₁ k₁ r₁ => not_value (truth_ok hb' r₁ fun s' k => hQ _ s' (keeps_trans k₁ k) Rep.bool))
theorem Ev.neg {e : Expr} {pos : Pos} {m : Rho → Option V} (h : Ev prog w hb n sc e m) : Ev prog w hb n sc (.UnaryOp .USub e pos) (fun ρ => do let a ← m ρ; match a.x with | .int i => some ⟨.int (-i), .d⟩ | _ => none) := by
  intro A Hz env s₀ X C ρ O s v Q E hs hA I
  refine bindI fun a ha hm hQ => ?_
  refine wpAny_UnaryOp (h hs hA I ha fun u s₁ k₁ r₁ => ?_)
  obtain ⟨ax, af⟩ := a
  obtain ⟨as, ra, _⟩ := r₁
  simp only at hm ra
  split at hm
  · (have e := si hm; subst e; clear hm); cases ra; exact P.neg_int (hQ _ _ (keeps_trans k₁ (keeps_toks s₁ _)) Rep.int)
  · exact no hm
theorem Ev.and2 {x y : Expr} {pos : Pos} {mx my : Rho → Option V} (hx : Ev prog w hb n sc x mx) (hy : Ev prog w hb n sc y my) :
    Ev prog w hb n sc (.BoolOp .And [x, y] pos) (fun ρ => do let a ← mx ρ; let b ← aTruth a.x; if b then my ρ else some a) := by
  intro A Hz env s₀ X C ρ O s v Q E hs hA I
  refine bindI fun a ha => bindI fun b hb' hm hQ => ?_
  refine wpAny_And2 (hx hs hA I ha fun u s₁ k₁ r₁ => truth_ok hb' r₁ fun s₂ k₂ => ?_)
  cases b with
  | true => exact hy hs hA ((I.grow k₁).grow k₂) hm fun u s' k r => hQ u s' (keeps_trans k₁ (keeps_trans k₂ k)) r
  | false => (have e := si hm; subst e; clear hm); exact hQ u s₂ (keeps_trans k₁ k₂) (r₁.grow (keeps_grow k₂))
theorem Ev.or2 {x y : Expr} {pos : Pos} {mx my : Rho → Option V} (hx : Ev prog w hb n sc x mx) (hy : Ev prog w hb n sc y my) :
    Ev prog w hb n sc (.BoolOp .Or [x, y] pos) (fun ρ => do let a ← mx ρ; let b ← aTruth a.x; if b then some a else my ρ) := by
  intro A Hz env s₀ X C ρ O s v Q E hs hA I
  refine bindI fun a ha => bindI fun b hb' hm hQ => ?_
  refine wpAny_Or2 (hx hs hA I ha fun u s₁ k₁ r₁ => truth_ok hb' r₁ fun s₂ k₂ => ?_)
  cases b with
  | false => exact hy hs hA ((I.grow k₁).grow k₂) hm fun u s' k r => hQ u s' (keeps_trans k₁ (keeps_trans k₂ k)) r
  | true => (have e := si hm; subst e; clear hm); exact hQ u s₂ (keeps_trans k₁ k₂) (r₁.grow (keeps_grow k₂))
theorem Ev.ite {t b o : Expr} {pos : Pos} {mt : Rho → Option Bool} {mb mo : Rho → Option V} (ht : Tr prog w hb n sc t mt) (h1 : Ev prog w hb n sc b mb) (h2 : Ev prog w hb n sc o mo) :
    Ev prog w hb n sc (.IfExp t b o pos) (fun ρ => do let c ← mt ρ; if c then mb ρ else mo ρ) := by
  intro A Hz env s₀ X C ρ O s v Q E hs hA I
  refine bindI fun c hc hm hQ => ?_
  refine wpAny_IfExp (ht hs hA I hc fun s₁ k₁ => ?_)
  induction c with
  | true => exact h1 hs hA (I.grow k₁) hm fun u s' k r => hQ u s' (keeps_trans k₁ k) r
  | false => exact h2 hs hA (I.grow k₁) hm fun u s' k r => hQ u s' (keeps_trans k₁ k) r
theorem Evs.nil : Evs prog w hb n sc [] (fun _ => some []) := by
  intro A Hz env s₀ X C ρ O s vs pos Q E hs hA I hm hQ
  (have e := si hm; subst e; clear hm); exact wpAny_items_nil (hQ [] s (keeps_refl s) .nil)
theorem Evs.cons {e : Expr} {es : List Expr} {m : Rho → Option V} {ms : Rho → Option (List V)} (h : Ev prog w hb n sc e m) (hs' : Evs prog w hb n sc es ms)
    (he : ∀ env, starEach (e :: es) env = (false, eval e env) :: starEach es env := by intro _; rfl) :
    Evs prog w hb n sc (e :: es) (fun ρ => do let a ← m ρ; let as ← ms ρ; some (a :: as)) := by
  intro A Hz env s₀ X C ρ O s vs pos Q E hs hA I
  refine bindI fun a ha => bindI fun as has hm hQ => ?_
  (have e := si hm; subst e; clear hm)
  refine wpAny_items_cons (h hs hA I ha fun u s₁ k₁ r₁ => hs' hs hA (I.grow k₁) has fun us s₂ k₂ r₂ => ?_) (he _)
  exact hQ _ _ (keeps_trans k₁ k₂) (.cons (r₁.grow (keeps_grow k₂)) r₂)
noncomputable def flsOf (vs : List V) : Fl := vs.foldr (fun v f => v.fl.join f) .d
theorem Reps.one_inv {s₀ h : Heap} {W : List Addr} {us : List Value} {v : V} (r : Reps prog w Hz s₀ W h us [v]) : ∃ u, us = [u] ∧ Rep prog w Hz s₀ W h u v := by
  cases r with
  | cons a b => cases b; exact ⟨_, rfl, a⟩
theorem Reps.rds {s₀ h : Heap} {W : List Addr} {us : List Value} {vs : List V} (r : Reps prog w Hz s₀ W h us vs) : ∃ as, RDs prog w Hz h us (vs.map (·.x)) as ∧ wfs (vs.map (·.x)) = true ∧ FlOk s₀ W (flsOf vs) as := by
  induction r with
  | nil => exact ⟨[], .nil, rfl, FlOk.nil⟩
  | cons a _ ih =>
    obtain ⟨as, r, c, o⟩ := ih
    obtain ⟨bs, r', c', o'⟩ := a
    refine ⟨bs ++ as, .cons r' r, by simp [wfs, c, c'], ?_⟩
    simp only [flsOf, List.foldr_cons]
    exact FlOk.append o'.join_l o.join_r
theorem Reps.length {s₀ h : Heap} {W : List Addr} {us : List Value} {vs : List V} (r : Reps prog w Hz s₀ W h us vs) : us.length = vs.length := by
  induction r with
  | nil => rfl
  | cons _ _ ih => simp [ih]
theorem Ev.list {es : List Expr} {pos : Pos} {ms : Rho → Option (List V)} (h : Evs prog w hb n sc es ms) :
    Ev prog w hb n sc (.List es pos) (fun ρ => do let vs ← ms ρ; if vs.length ≤ sizeLine then some (V.newL (vs.map (·.x)) (flsOf vs)) else none) := by
  intro A Hz env s₀ X C ρ O s v Q E hs hA I
  refine bindI fun vs hvs => ifI fun hz hm hQ => ?_
  · (have e := si hm; subst e; clear hm)
    refine wpAny_List (h hs hA I hvs fun us s₁ k₁ r₁ => ⟨by rw [r₁.length]; exact hz, ?_⟩)
    obtain ⟨as, r, c, o⟩ := r₁.rds
    exact hQ _ _ (keeps_trans k₁ (keeps_push _ _)) ((I.grow k₁).newL r (wf_list.mpr ⟨by simpa using hz, c⟩) o)
theorem Ev.tuple {es : List Expr} {k : Nat} {pos : Pos} {ms : Rho → Option (List V)} (h : Evs prog w hb n sc es ms) :
    Ev prog w hb n sc (.Tuple es k pos) (fun ρ => do let vs ← ms ρ; if vs.length ≤ sizeLine then some (V.fix (.tuple (vs.map (·.x))) (flsOf vs)) else none) := by
  intro A Hz env s₀ X C ρ O s v Q E hs hA I
  refine bindI fun vs hvs => ifI fun hz hm hQ => ?_
  · (have e := si hm; subst e; clear hm)
    refine wpAny_Tuple (h hs hA I hvs fun us s₁ k₁ r₁ => ⟨by rw [r₁.length]; exact hz, ?_⟩)
    obtain ⟨as, r, c, o⟩ := r₁.rds
    exact hQ _ _ (keeps_trans k₁ (keeps_push _ _)) ((I.grow k₁).newT r (wf_tuple.mpr ⟨by simpa using hz, c⟩) o)

noncomputable def seqAt {α : Type} (xs : List α) (k : Int) : Option α := if 0 ≤ k then xs[k.toNat]? else if -(xs.length : Int) ≤ k then xs[(k + xs.length).toNat]? else none
noncomputable def atKey (k : Str) : List (PyData × PyData) → Option PyData
  | [] => none
  | (.str x, v) :: r => if x = k then some v else atKey k r
  | _ :: r => atKey k r
theorem RD.plain_at {h : Heap} {v : Value} {as : List Addr} {ps : List (PyData × PyData)} {k : Str} {x : PyData} (r : RD prog w Hz h v (.dict ps) as) (e : atKey k ps = some x) : plainK ps = true := by
  generalize hd : PyData.dict ps = D at r
  cases r with
  | dict b1 b2 b3 b4 => obtain rfl := PyData.dict.inj hd; exact plainK_map _ _ _
  | val i => cases hd; exact no e
  | store i r => cases hd; exact no e
  | inst i q e' n r => cases hd; exact no e
  | _ => cases hd
noncomputable def intOf : PyData → Option Int
  | .int k => some k
  | _ => none
theorem intOf_some {x : PyData} {k : Int} (h : intOf x = some k) : x = .int k := by
  cases x with
  | int i => (have e := si h; subst e; clear h); rfl
  | _ => exact no h
noncomputable def aIdx (x y : PyData) : Option PyData := match x with
  | .list xs => (intOf y).bind fun k => seqAt xs k
  | .tuple xs => (intOf y).bind fun k => seqAt xs k
  | .str x => (intOf y).bind fun k => (seqAt x.cps.toList k).map fun c => .str ⟨#[c]⟩
  | .dict kvs => (keyOf y).bind fun k => atKey k kvs
  | _ => none
theorem seqAt_lt {α : Type} {xs : List α} {k : Int} {x : α} (h : seqAt xs k = some x) : -(xs.length : Int) ≤ k ∧ k < xs.length ∧ ∃ i, seqIndex? k xs.length = some i ∧ xs[i]? = some x := by
  unfold seqAt at h
  unfold seqIndex?
  split at h
  · rename_i hk
    have := (List.getElem?_eq_some_iff.mp h).1
    refine ⟨by lia, by lia, k.toNat, ?_, h⟩
    simp only [show ¬ k < 0 by lia, if_false]
    simp only [show (0 ≤ k ∧ k < (xs.length : Int)) by lia]
    simp
  · split at h
    · rename_i hk hk'
      have := (List.getElem?_eq_some_iff.mp h).1
      refine ⟨by lia, by lia, (k + xs.length).toNat, ?_, h⟩
      simp only [show k < 0 by lia, if_true]
      simp only [show (0 ≤ k + (xs.length : Int) ∧ k + (xs.length : Int) < (xs.length : Int)) by lia]
      simp
    · exact no h
theorem wfs_get {xs : List PyData} {i : Nat} {x : PyData} (h : wfs xs = true) (e : xs[i]? = some x) : wf x = true := (wfs_iff xs).mp h x (List.mem_of_getElem? e)
theorem valueAt_hit {ks : List (Str × Value)} {p : Str × Value} {k : Str} (h : p.1 = k) : valueAt (p :: ks) k = some p.2 := by
  unfold valueAt
  rw [List.find?_cons, show decide (p.1 = k) = true from decide_eq_true h]; rfl
theorem valueAt_miss {ks : List (Str × Value)} {p : Str × Value} {k : Str} (h : ¬ p.1 = k) : valueAt (p :: ks) k = valueAt ks k := by
  unfold valueAt
  rw [List.find?_cons, show decide (p.1 = k) = false from decide_eq_false h]
theorem key_get {h : Heap} {k : Str} {ks : List (Str × Value)} : ∀ {ys : List (Str × PyData)} {cs : List Addr}, ks.map (·.1) = ys.map (·.1) → RDs prog w Hz h (ks.map (·.2)) (ys.map (·.2)) cs →
    (∀ x, atKey k (ys.map fun p => (.str p.1, p.2)) = some x → ∃ v ds, valueAt ks k = some v ∧ RD prog w Hz h v x ds ∧ (∀ d ∈ ds, d ∈ cs) ∧ ∃ q ∈ ys, q.2 = x) ∧
    (atKey k (ys.map fun p => (.str p.1, p.2)) = none → valueAt ks k = none) := by
  induction ks with
  | nil =>
    intro ys cs e _
    induction ys with
    | nil => exact ⟨fun x h => (nomatch h), fun _ => rfl⟩
    | cons q ys => cases e
  | cons p ks ih =>
    intro ys cs e r
    cases ys with
    | nil => cases e
    | cons q ys =>
      obtain ⟨e0, e1⟩ := List.cons.inj e
      obtain ⟨as, bs, rfl, r1, r2⟩ := r.cons_inv
      obtain ⟨i1, i2⟩ := ih e1 r2
      show (∀ x, (if q.1 = k then some q.2 else atKey k (ys.map fun p => (.str p.1, p.2))) = some x → _) ∧ ((if q.1 = k then some q.2 else atKey k (ys.map fun p => (.str p.1, p.2))) = none → _)
      by_cases hk : q.1 = k
      · rw [if_pos hk]
        refine ⟨fun x h => ?_, fun h => (nomatch h)⟩
        (have e := si h; subst e; clear h)
        exact ⟨p.2, as, valueAt_hit (e0.trans hk), r1, fun d hd => List.mem_append_left _ hd, q, .head _, rfl⟩
      · rw [if_neg hk, valueAt_miss fun e => hk (e0.symm.trans e)]
        refine ⟨fun x h => ?_, i2⟩
        obtain ⟨v, ds, a, b, c, q', hq, d⟩ := i1 x h
        exact ⟨v, ds, a, b, fun y hy => List.mem_append_right _ (c y hy), q', .tail _ hq, d⟩
theorem wfk_at : ∀ {ys : List (Str × PyData)} {q : Str × PyData}, wfk (ys.map fun p => (.str p.1, p.2)) = true → q ∈ ys → wf q.2 = true
  | [], q, _, h => nomatch h
  | y :: ys, q, h, hq => by
    simp only [List.map_cons, wfk, Bool.and_eq_true] at h
    rcases List.mem_cons.mp hq with rfl | hq
    · exact h.1.2
    · exact wfk_at h.2 hq
section
variable {A : Around} {env : Env} {s₀ : Heap} {W : List Addr} {s : Shared} {E : Value → Shared → Prop}
theorem getItem_ok {a b : V} {x : PyData} {u₁ u₂ : Value} {Q : Value → Shared → Prop} (h : aIdx a.x b.x = some x) (r₁ : Rep prog w Hz s₀ W s.heap u₁ a) (r₂ : Rep prog w Hz s₀ W s.heap u₂ b)
    (hQ : ∀ u s', Keeps s s' → Rep prog w Hz s₀ W s'.heap u (V.fix x a.fl) → Q u s') : wpAny (model prog w) A (getItem u₁ u₂) Q E s ∧ ∃ T id, s.TypeIs u₁ T ∧ typeLookup (.type T) "__getitem__" = pure (some (.builtin id)) := by
  obtain ⟨ax, af⟩ := a
  obtain ⟨bx, bf⟩ := b
  obtain ⟨as, ra, ca, oa⟩ := r₁
  obtain ⟨bs, rb, cb, ob⟩ := r₂
  have hz := sizeLine_small
  dsimp only at h ra rb ca cb oa ob hQ
  clear cb ob
  cases ax with
  | list xs =>
    obtain ⟨k, hk, h⟩ := bindE h
    obtain rfl := intOf_some hk
    induction rb.intI with | mk t => ?_
    induction ra.listI with | mk d us m ds a1 a2 => ?_
    clear rb ra hk
    rw [wf_list] at ca
    have hl := a2.length
    obtain ⟨l1, l2, i, hi, hx⟩ := seqAt_lt h
    obtain ⟨v, cs, e1, e2, e3⟩ := a2.get hx
    refine ⟨?_, "list", _, ⟨_, a1, rfl⟩, list_getitem_lookup⟩
    have fin : Q v s := hQ v s (keeps_refl s) (Rep.fixed e2 (wfs_get ca.2 hx) (oa.mono fun b hb => .tail _ (e3 b hb)))
    clear hQ e2 e3 oa h hx
    by_cases hk : 0 ≤ k
    · refine wpAny_getItem_list ⟨_, a1, rfl, _, rfl⟩ hk (by lia) ?_ fin
      simp only [seqIndex?, show ¬ (k < 0) from by lia, if_false] at hi
      split at hi
      · (have e := si hi; subst e; clear hi); simpa using e1
      · exact no hi
    · refine wpAny_getItem_list_neg ⟨_, a1, rfl, _, rfl⟩ (by lia) (by simp; lia) (by lia) ?_ fin
      simp only [seqIndex?, show (k < 0) from by lia, if_true] at hi
      split at hi
      · (have e := si hi; subst e; clear hi); simpa [hl] using e1
      · exact no hi
  | tuple xs =>
    obtain ⟨k, hk, h⟩ := bindE h
    obtain rfl := intOf_some hk
    induction rb.intI with | mk t => ?_
    induction ra.tupI with | mk d us m a1 a2 => ?_
    clear rb ra hk
    rw [wf_tuple] at ca
    have hl := a2.length
    obtain ⟨l1, l2, i, hi, hx⟩ := seqAt_lt h
    obtain ⟨v, cs, e1, e2, e3⟩ := a2.get hx
    refine ⟨?_, "tuple", _, ⟨_, a1, rfl⟩, F.slot_tuple_getitem.lookup⟩
    refine P.getItem_tuple a1 (by lia) (by lia) (k := i) (by simpa [hl] using hi) (by simpa using e1) ?_
    exact hQ v s (keeps_refl s) (Rep.fixed e2 (wfs_get ca.2 hx) (oa.mono e3))
  | str x =>
    obtain ⟨k, hk, h⟩ := bindE h
    obtain rfl := intOf_some hk
    induction mapE h with | mk c hc => ?_
    induction rb.intI with | mk t => ?_
    induction ra.strI with | mk t' => ?_
    clear rb ra hk
    rw [wf_str] at ca
    obtain ⟨l1, l2, i, hi, hx⟩ := seqAt_lt hc
    have hlen : x.cps.toList.length = x.length := by simp [Str.length]
    rw [hlen] at l1 l2 hi
    refine ⟨?_, "str", _, typeIs_str s _ _, F.slot_str_getitem.lookup⟩
    have := ca.2
    refine P.getItem_str (c := c) ?_ (by rw [hi]; simpa using hx) (hQ _ _ (keeps_toks s _) (Rep.fixed (.str _ _) (wf_str.mpr ⟨?_, by show 1 ≤ sizeLine; decide⟩) FlOk.nil))
    · have h1 : ¬ k < -(2 ^ 63 : Int) := by lia
      have h2 : ¬ k ≥ 2 ^ 63 := by lia
      rw [decide_eq_false h1, decide_eq_false h2]; rfl
    · have := ca.1
      unfold PyData.strOk at this ⊢
      have hc' : c ∈ x.cps := by
        have := List.mem_of_getElem? hx
        simpa using this
      have := Array.all_eq_true'.mp this c hc'
      simpa using this
  | dict kvs =>
    obtain ⟨k, hk, h⟩ := bindE h
    obtain rfl := keyOf_some hk
    induction rb.strI with | mk t => ?_
    induction ra.dictI (ra.plain_at h) with | mk d ks ys es b1 b2 b3 b4 => ?_
    clear rb ra hk
    obtain ⟨v, ds, g1, g2, g3, q, g4, rfl⟩ := (key_get b3 b4).1 x h
    have hwf : wf q.2 = true := by
      simp only [wf, Bool.and_eq_true] at ca
      exact wfk_at ca.2 g4
    refine ⟨?_, "dict", _, b1.typeIs, slot_dict_getitem.lookup⟩
    exact wpAny_getItem_of (strKey _ _) b1.mapOf g1 (hQ _ _ (keeps_toks s _) (Rep.fixed g2 hwf (oa.mono fun d hd => .tail _ (g3 d hd))))
  | _ => exact no h
end
theorem Ev.idx {e i : Expr} {pos : Pos} {m mi : Rho → Option V} (h : Ev prog w hb n sc e m) (hi : Ev prog w hb n sc i mi) (hs' : ∀ o j, ∃ ops, subscripted i false o j = operate ops (getItem o j) := by intro _ _; exact ⟨_, rfl⟩) :
    Ev prog w hb n sc (.Subscript e i pos) (fun ρ => do let a ← m ρ; let b ← mi ρ; let x ← aIdx a.x b.x; some (V.fix x a.fl)) := by
  intro A Hz env s₀ X C ρ O s v Q E hs hA I
  refine bindI fun a ha => bindI fun b hb' => bindI fun x hx hm hQ => ?_
  (have e := si hm; subst e; clear hm)
  refine PyProof.Rows.Subscript_ (h hs hA I ha fun u s₁ k₁ r₁ => hi hs hA (I.grow k₁) hb' fun u' s₂ k₂ r₂ => ?_)
  obtain ⟨g, T, id, hT, hl⟩ := getItem_ok (A := A) (E := E) (Q := Q) hx (r₁.grow (keeps_grow k₂)) r₂ fun u s' k r => hQ u s' (keeps_trans k₁ (keeps_trans k₂ k)) r
  obtain ⟨ops, e⟩ := hs' u u'
  exact PyProof.Rows.tail_any hT hl g e

noncomputable def Pt (prog : Program) (w : World) (hb : Heap) (n : Nat) (sc : Scope) (e : Option Expr) (m : Rho → Option (Option Int)) : Prop :=
  ∀ ⦃A : Around⦄ ⦃Hz : List Addr⦄ ⦃env : Env⦄ ⦃s₀ : Shared⦄ ⦃X C : List Addr⦄ ⦃ρ : Rho⦄ ⦃O : List (String × List Addr)⦄ ⦃s : Shared⦄ ⦃v : Option Int⦄ ⦃Q : Value → Shared → Prop⦄ ⦃E : Value → Shared → Prop⦄,
    env.scope = sc → RoomF A n → InF prog w Hz hb s₀ X env C ρ O s → m ρ = some v → (∀ p s', Keeps s s' → p.map (·.1) = v → Q (partValue p) s') → wpAny (model prog w) A (evalPart e env) Q E s
theorem Pt.no : Pt prog w hb n sc none (fun _ => some none) := by
  intro A Hz env s₀ X C ρ O s v Q E hs hA I hm hQ
  (have e := si hm; subst e; clear hm)
  rw [evalPart_none]
  exact wpAny_pure (hQ none s (keeps_refl s) rfl)
theorem Pt.yes {e : Expr} {m : Rho → Option V} (h : Ev prog w hb n sc e m) : Pt prog w hb n sc (some e) (fun ρ => do let a ← m ρ; match a.x with | .int i => some (some i) | _ => none) := by
  intro A Hz env s₀ X C ρ O s v Q E hs hA I
  refine bindI fun z0 ha hm hQ => ?_
  obtain ⟨ax, af⟩ := z0
  rw [evalPart_some]
  refine h hs hA I ha fun u s' k r => ?_
  obtain ⟨as, ra, _⟩ := r
  simp only at hm ra
  split at hm
  · (have e := si hm; subst e; clear hm); cases ra; exact hQ (some (_, _)) s' k rfl
  · cases hm
noncomputable def sliceIdx (lo hi st : Option Int) (k : Nat) : List Nat := sliceRange (sliceBounds lo hi st k).1 (sliceBounds lo hi st k).2.1 (sliceBounds lo hi st k).2.2
noncomputable def aSlice (lo hi st : Option Int) : PyData → Option PyData
  | .list xs => if st = some 0 then none else some (.list ((sliceIdx lo hi st xs.length).filterMap (xs[·]?)))
  | .str x => if st.getD 1 = 0 then none else some (.str (if st.getD 1 = 1 ∧ (Builtin.Str.strSliceIndices lo hi (st.getD 1) x.length).length = x.length then x else ⟨((Builtin.Str.strSliceIndices lo hi (st.getD 1) x.length).filterMap (x.cps[·]?)).toArray⟩))
  | _ => none
noncomputable def aSliceV (lo hi st : Option Int) (a : V) : Option V := (aSlice lo hi st a.x).map fun x => match x with
  | .list xs => V.newL xs a.fl
  | x => ⟨x, .d⟩
theorem IsPart.of {p : Option (Int × Tok)} {v : Option Int} (h : p.map (·.1) = v) : IsPart (partValue p) v := by
  subst h
  induction p with
  | none => exact .none
  | some p => exact .int _ _
theorem strOk_pick {x : Str} (h : PyData.strOk x = true) (is : List Nat) : PyData.strOk ⟨(is.filterMap (x.cps[·]?)).toArray⟩ = true := by
  unfold PyData.strOk at *
  rw [List.all_toArray, List.all_eq_true]
  intro c hc
  obtain ⟨i, _, hi⟩ := List.mem_filterMap.mp hc
  exact Array.all_eq_true'.mp h c (Array.mem_of_getElem? hi)
theorem wfs_pick {xs : List PyData} (h : wfs xs = true) (is : List Nat) : wfs (is.filterMap (xs[·]?)) = true := by
  rw [wfs_iff] at *
  intro x hx
  obtain ⟨i, _, hi⟩ := List.mem_filterMap.mp hx
  exact h x (List.mem_of_getElem? hi)
theorem pick_len {α : Type} (xs : List Value) (ys : List α) (h : xs.length = ys.length) (lo hi st : Option Int) : ((sliceIdx lo hi st ys.length).filterMap (ys[·]?)).length ≤ ys.length := by
  have e : ((sliceIdx lo hi st ys.length).filterMap (ys[·]?)).length = ((sliceIdx lo hi st ys.length).filterMap (xs[·]?)).length := by
    generalize sliceIdx lo hi st ys.length = l
    induction l with
    | nil => rfl
    | cons i l ih =>
      by_cases hi : i < ys.length
      · simp [List.getElem?_eq_getElem hi, List.getElem?_eq_getElem (show i < xs.length by lia), ih]
      · simp [List.getElem?_eq_none (show ys.length ≤ i by lia), List.getElem?_eq_none (show xs.length ≤ i by lia), ih]
  have := slicePick_size_le xs.toArray lo hi st
  simp only [slicePick, List.size_toArray, List.getElem?_toArray] at this
  rw [e, ← h]
  exact this
section
variable {A : Around} {env : Env} {s₀ : Shared} {X C : List Addr} {ρ : Rho} {O : List (String × List Addr)} {s : Shared} {E : Value → Shared → Prop}
theorem slice_ok {a v : V} {u : Value} {l h st : Option Int} {pl ph pst : Option (Int × Tok)} {sl : Addr} {Q : Value → Shared → Prop} (I : InF prog w Hz hb s₀ X env C ρ O s) (e : aSliceV l h st a = some v) (r : Rep prog w Hz s₀.heap (WW env C O) s.heap u a)
    (el : pl.map (·.1) = l) (eh : ph.map (·.1) = h) (est : pst.map (·.1) = st) (hsl : s.heap.get? sl = some { cls := .type "slice", data := .fields #[partValue pl, partValue ph, partValue pst] })
    (hQ : ∀ u s', Keeps s s' → Rep prog w Hz s₀.heap (WW env C O) s'.heap u v → Q u s') : wpAny (model prog w) A (getItem u (.ref sl)) Q E s ∧ ∃ T id, s.TypeIs u T ∧ typeLookup (.type T) "__getitem__" = pure (some (.builtin id)) := by
  obtain ⟨x, hx, hv⟩ := Option.map_eq_some_iff.mp e
  obtain ⟨ax, af⟩ := a
  obtain ⟨as, ra, ca, oa⟩ := r
  simp only at *
  unfold aSlice at hx
  split at hx
  · rename_i xs
    split at hx
    · exact no hx
    · rename_i h0
      (have e := si hx; subst e; clear hx); cases hv
      obtain ⟨ad, vs, k, bs, q1, q2, a1, a2⟩ := ra.list_inv
      cases q1; cases q2
      rw [wf_list] at ca
      have hl := a2.length
      refine ⟨?_, "list", _, ⟨_, a1, rfl⟩, list_getitem_lookup⟩
      refine wpAny_getItem_list_slice ⟨_, a1, rfl, _, rfl⟩ ⟨_, hsl, rfl, rfl⟩ (IsPart.of el) (IsPart.of eh) (IsPart.of est) h0 ?_ (by simp [hl]; exact ca.1)
      have e2 : slicePick vs.toArray l h st = ((sliceIdx l h st xs.length).filterMap (vs[·]?)).toArray := by
        simp only [slicePick, sliceIdx, List.size_toArray, List.getElem?_toArray, hl]
      rw [e2]
      obtain ⟨cs, q, hq⟩ := a2.part (sliceIdx l h st xs.length)
      have := pick_len vs xs hl l h st
      refine hQ _ _ (keeps_push s _) (I.newL q (wf_list.mpr ⟨by have := ca.1; lia, wfs_pick ca.2 _⟩) (oa.mono fun b hb => .tail _ (hq b hb)))
  · rename_i x
    split at hx
    · exact no hx
    · rename_i h0
      (have e := si hx; subst e; clear hx); cases hv; cases ra
      rw [wf_str] at ca
      refine ⟨?_, "str", _, typeIs_str s _ _, F.slot_str_getitem.lookup⟩
      have hst : (pst.map (·.1)).getD 1 = st.getD 1 := by rw [est]
      refine wpAny_getItem_str_slice (l := pl) (u := ph) (st := pst) ⟨_, hsl, rfl, rfl⟩ (by rw [hst]; simpa using h0) ?_
      unfold sliceMade slicePicked
      rw [hst, el, eh]
      by_cases hc : st.getD 1 = 1 ∧ (Builtin.Str.strSliceIndices l h (st.getD 1) x.length).length = x.length
      · have hc' : (st.getD 1 == 1 && (Builtin.Str.strSliceIndices l h (st.getD 1) x.length).length == x.length) = true := by simpa using hc
        rw [if_pos hc']
        rw [if_pos hc] at hQ
        exact hQ _ _ (keeps_refl s) (Rep.str (wf_str.mpr ca))
      · have hc' : ¬ (st.getD 1 == 1 && (Builtin.Str.strSliceIndices l h (st.getD 1) x.length).length == x.length) = true := by simpa using hc
        rw [if_neg hc']
        rw [if_neg hc] at hQ
        have hlen : (⟨((Builtin.Str.strSliceIndices l h (st.getD 1) x.length).filterMap (x.cps[·]?)).toArray⟩ : Str).length ≤ sizeLine := by
          have q := pick_len (List.replicate x.cps.toList.length Value.none) x.cps.toList (by simp) l h st
          have e1 : x.cps.toList.length = x.length := by simp [Str.length]
          rw [e1] at q
          have e2 : Builtin.Str.strSliceIndices l h (st.getD 1) x.length = sliceIdx l h st x.length := rfl
          rw [e2]
          show (List.toArray _).size ≤ sizeLine
          rw [List.size_toArray]
          have e3 : (sliceIdx l h st x.length).filterMap (x.cps.toList[·]?) = (sliceIdx l h st x.length).filterMap (x.cps[·]?) := by simp
          rw [← e3]
          have := ca.2
          lia
        exact ⟨hlen, hQ _ _ (keeps_toks s _) (Rep.str (wf_str.mpr ⟨strOk_pick ca.1 _, hlen⟩))⟩
  · exact no hx
end
theorem Ev.slice {e : Expr} {lo hi st : Option Expr} {p pos : Pos} {m : Rho → Option V} {ml mh ms : Rho → Option (Option Int)} (h : Ev prog w hb n sc e m) (hl : Pt prog w hb n sc lo ml) (hh : Pt prog w hb n sc hi mh) (hst : Pt prog w hb n sc st ms)
    (hs' : ∀ o j, ∃ ops, subscripted (.Slice lo hi st p) false o j = operate ops (getItem o j)) :
    Ev prog w hb n sc (.Subscript e (.Slice lo hi st p) pos) (fun ρ => do let a ← m ρ; let l ← ml ρ; let u ← mh ρ; let t ← ms ρ; aSliceV l u t a) := by
  intro A Hz env s₀ X C ρ O s v Q E hs hA I
  refine bindI fun a ha => bindI fun l hl' => bindI fun u hu' => bindI fun t ht' hm hQ => ?_
  refine PyProof.Rows.Subscript_ (h hs hA I ha fun v₁ s₁ k₁ r₁ => wpAny_Slice (hl hs hA (I.grow k₁) hl' fun p₂ s₂ k₂ e₂ => hh hs hA ((I.grow k₁).grow k₂) hu' fun p₃ s₃ k₃ e₃ => hst hs hA (((I.grow k₁).grow k₂).grow k₃) ht' fun p₄ s₄ k₄ e₄ => ?_))
  have kk := keeps_trans k₁ (keeps_trans k₂ (keeps_trans k₃ (keeps_trans k₄ (keeps_push s₄ { cls := .type "slice", data := .fields #[partValue p₂, partValue p₃, partValue p₄] }))))
  have kk' := keeps_trans k₂ (keeps_trans k₃ (keeps_trans k₄ (keeps_push s₄ { cls := .type "slice", data := .fields #[partValue p₂, partValue p₃, partValue p₄] })))
  obtain ⟨g, T, id, hT, hlk⟩ := slice_ok (A := A) (E := E) (Q := Q) (I.grow kk) hm (r₁.grow (keeps_grow kk')) e₂ e₃ e₄ (Heap.get?_push_size _ rfl) fun u s' k r => hQ u s' (keeps_trans kk k) r
  obtain ⟨ops, e⟩ := hs' v₁ (.ref s₄.heap.objs.size)
  exact PyProof.Rows.tail_any hT hlk g e

theorem map_toNat_inj : ∀ {l l' : List Char}, l.map Char.toNat = l'.map Char.toNat → l = l'
  | [], [], _ => rfl
  | [], _ :: _, h => by simp at h
  | _ :: _, [], h => by simp at h
  | a :: l, b :: l', h => by
    simp only [List.map_cons, List.cons.injEq] at h
    rw [map_toNat_inj h.2]
    congr 1
    exact Char.ext (UInt32.toNat_inj.mp h.1)
theorem ofString_inj {x y : String} (h : Str.ofString x = Str.ofString y) : x = y := by
  rw [Str.ofString_eq_toList, Str.ofString_eq_toList] at h
  simp only [Str.mk.injEq] at h
  have := map_toNat_inj (by simpa using congrArg Array.toList h)
  exact String.toList_inj.mp this

section
variable {s₀ s : Shared} {X : List Addr} {env : Env} {C : List Addr} {ρ : Rho} {O : List (String × List Addr)}
structure Wrote (Z W : List Addr) (h h' : Heap) : Prop where
  sub : ∀ a ∈ Z, a ∈ W
  same : ∀ b o, h.get? b = some o → b ∉ Z → h'.get? b = some o
  here : ∀ a ∈ Z, ∃ o, h'.get? a = some o ∧ ¬ Tup o
theorem Wrote.off {Z W : List Addr} {h h' : Heap} (k : Wrote Z W h h') (ht : ∀ a ∈ W, ∃ o, h.get? a = some o ∧ ¬ Tup o) : Off W h h' := by
  intro b o e hc
  refine k.same b o e fun hz => ?_
  rcases hc with hc | hc
  · exact hc (k.sub b hz)
  · obtain ⟨o', e', q⟩ := ht b (k.sub b hz)
    rw [e] at e'; (have e := si e'; subst e; clear e'); exact q hc
theorem Rep.off {s₀ h h' : Heap} {W : List Addr} {u : Value} {v : V} (k : Off W h h') (r : Rep prog w Hz s₀ W h u v) (hf : v.fl = .d ∨ v.fl = .s) : Rep prog w Hz s₀ W h' u v := by
  obtain ⟨as, r, c, o⟩ := r
  refine ⟨as, r.off k ?_, c, o⟩
  rcases hf with hf | hf <;> rw [hf] at o
  · exact fun a ha => (o a ha).2
  · exact o
theorem RepO.off {s₀ h h' : Heap} {Z W : List Addr} {u : Value} {o : Own} {sp : List Addr} (k : Off W h h') (k' : ∀ b ob, h.get? b = some ob → b ∉ Z → h'.get? b = some ob) (r : RepO prog w Hz s₀ W h u o sp) (hz : ∀ a ∈ sp, a ∉ Z) : RepO prog w Hz s₀ W h' u o sp := by
  induction r with
  | lst a b c d => exact .lst (k' _ _ a (hz _ (.head _))) (b.off k fun x hx => (d x hx).2) c d
  | dct a g e b c d =>
    obtain ⟨o, es, ep, ho, r⟩ := a
    exact .dct ⟨o, es, ep, k' _ _ ho (hz _ (.head _)), r⟩ g e (b.off k fun x hx => (d x hx).2) c d
  | tree a b c e f => exact .tree (a.off (W := Z) (fun b o e q => q.elim (k' b o e) fun t => k b o e (.inr t)) hz) b c e f
theorem lookup_mem {α β : Type} [BEq α] [LawfulBEq α] {l : List (α × β)} {x : α} {y : β} (h : l.lookup x = some y) : (x, y) ∈ l := by
  induction l with
  | nil => simp at h
  | cons p l ih =>
    obtain ⟨a, b⟩ := p
    rw [List.lookup_cons] at h
    split at h
    · rename_i e
      (have e := si h; subst e; clear h)
      rw [eq_of_beq e]; exact .head _
    · exact .tail _ (ih h)
theorem own_sub {x : String} {sp : List Addr} (h : O.lookup x = some sp) {a : Addr} (ha : a ∈ sp) : a ∈ WW env C O := by
  refine List.mem_cons_of_mem _ (List.mem_append_right _ (List.mem_flatMap.mpr ⟨(x, sp), lookup_mem h, ha⟩))
theorem InF.wrote (I : InF prog w Hz hb s₀ X env C ρ O s) {Z : List Addr} {h' : Heap} (k : Wrote Z (WW env C O) s.heap h') :
    Base prog Hz hb h' ∧ (∀ b o, s₀.heap.get? b = some o → b ∉ X → h'.get? b = some o) ∧ (∀ b o, s₀.heap.get? b = some o → ∃ o', h'.get? b = some o') ∧ (∀ a ∈ WW env C O, ∃ o, h'.get? a = some o ∧ ¬ Tup o) ∧ Off (WW env C O) s.heap h' := by
  refine ⟨⟨fun z hz => ?_, I.base.lim, I.base.seer, I.base.tree, I.base.mods, fun b o e => k.same b o (I.base.grow b o e) fun hz => ?_⟩, fun b o e hx => k.same b o (I.keep b o e hx) fun hz => ?_, fun b o e => ?_, fun a ha => ?_, k.off I.walive⟩
  · obtain ⟨q, o, e, t⟩ := I.base.hide z hz
    refine ⟨q, o, k.same z o e (fun hz' => ?_), t⟩
    obtain ⟨o', e', nt⟩ := I.walive z (k.sub z hz')
    rw [e] at e'; (have e := si e'; subst e; clear e'); exact nt t
  · rw [(I.wfresh b (k.sub b hz)).1] at e; exact no e
  · rw [(I.wfresh b (k.sub b hz)).2 hx] at e; exact no e
  · by_cases hz : b ∈ Z
    · obtain ⟨o', e', _⟩ := k.here b hz; exact ⟨o', e'⟩
    · obtain ⟨o', e'⟩ := I.alive b o e; exact ⟨o', k.same b o' e' hz⟩
  · by_cases hz : a ∈ Z
    · exact k.here a hz
    · obtain ⟨o, e, c⟩ := I.walive a ha; exact ⟨o, k.same a o e hz, c⟩
theorem RepVV.wrote {s₀ h h' : Heap} {Z W : List Addr} {O : List (String × List Addr)} {x : String} {u : Value} {vv : VV} (k : Off W h h') (k' : ∀ b ob, h.get? b = some ob → b ∉ Z → h'.get? b = some ob) (r : RepVV prog w Hz s₀ W O h x u vv) (hz : ∀ sp, O.lookup x = some sp → ∀ a ∈ sp, a ∉ Z) : RepVV prog w Hz s₀ W O h' x u vv := by
  induction vv with
  | val v => exact ⟨r.1, r.2.off k r.1⟩
  | own o => obtain ⟨sp, e, r⟩ := r; exact ⟨sp, e, r.off k k' (hz sp e)⟩

theorem own_off (hn : (WW env C O).Nodup) {x : String} {sp : List Addr} (h : O.lookup x = some sp) {a : Addr} (ha : a ∈ sp) : a ≠ env.locals ∧ a ∉ C := by
  have hm : a ∈ O.flatMap (·.2) := List.mem_flatMap.mpr ⟨(x, sp), lookup_mem h, ha⟩
  unfold WW at hn
  rw [List.nodup_cons, List.nodup_append] at hn
  refine ⟨fun e => hn.1 (e ▸ List.mem_append_right _ hm), fun hc => hn.2.2.2 a hc a hm rfl⟩
theorem InS.setL (I : InS prog w Hz hb s₀ X env C ρ O s) {x : String} {u : Value} {v : VV} {m : Str → Option Value} {h' : Heap} {tk : Nat} (hk : env.kindOf (Str.ofString x) = some .local)
    (hmv : ∀ y vv, ρ y = some vv → env.kindOf (Str.ofString y) = some .local → ∃ u, m (Str.ofString y) = some u ∧ RepVV prog w Hz s₀.heap (WW env C O) O s.heap y u vv)
    (hn : h'.Ns env.locals (fun y => if y = Str.ofString x then some u else m y)) (hs : Heap.SameBut env.locals s.heap h') (r : RepVV prog w Hz s₀.heap (WW env C O) O s.heap x u v) :
    InS prog w Hz hb s₀ X env C (ρ.set x v) O { s with heap := h', toks := tk } := by
  have K : Wrote [env.locals] (WW env C O) s.heap h' := by
    refine ⟨fun a ha => by rw [List.mem_singleton.mp ha]; exact .head _, fun b o e hb' => (hs.2 b (by simpa using hb')).trans e, fun a ha => ?_⟩
    rw [List.mem_singleton.mp ha]
    obtain ⟨o, es, ep, ho, hd, _⟩ := hn
    refine ⟨o, ho, fun ⟨vs, k, hc⟩ => ?_⟩
    rw [hc] at hd; cases hd
  obtain ⟨w1, w2, w3, w4, w5⟩ := I.toInF.wrote K
  obtain ⟨h0, t0, e0⟩ := I.same
  have hne : ∀ c ∈ C, c ≠ env.locals := fun c hc e => by
    have := I.wnodup
    unfold WW at this
    rw [List.nodup_cons] at this
    exact this.1 (e ▸ List.mem_append_left _ hc)
  refine ⟨⟨⟨h', tk, by rw [e0]⟩, w1, w2, w3, w4, I.wfresh, I.wnodup, I.kind, I.glob, I.bult, I.clk, ⟨_, hn, fun y vv e1 e2 => ?_⟩, fun y vv e1 e2 => ?_⟩, I.fc, I.finj, fun z c hc => ?_⟩
  · have e1' : (if y = x then some v else ρ y) = some vv := (set_if _ _ _ _).symm.trans e1
    by_cases hy : y = x
    · subst hy
      rw [if_pos rfl] at e1'
      (have e := si e1'; subst e; clear e1')
      refine ⟨u, if_pos rfl, r.wrote w5 K.same fun sp hsp a ha => ?_⟩
      simpa using (own_off I.wnodup hsp ha).1
    · rw [if_neg hy] at e1'
      obtain ⟨u', a, b⟩ := hmv y vv e1' e2
      refine ⟨u', (if_neg fun q => hy (ofString_inj q)).trans a, b.wrote w5 K.same fun sp hsp a ha => ?_⟩
      simpa using (own_off I.wnodup hsp ha).1
  · have hy : y ≠ x := fun q => by rw [q, hk] at e2; cases e2
    have e1' : (if y = x then some v else ρ y) = some vv := (set_if _ _ _ _).symm.trans e1
    rw [if_neg hy] at e1'
    obtain ⟨c, u', a, b, d⟩ := I.cell y vv e1' e2
    obtain ⟨c', a', hc'⟩ := I.fc y e2
    rw [a] at a'; (have e := si a'; subst e; clear a')
    refine ⟨c, u', a, b.sameBut hs (hne c hc'), d.wrote w5 K.same fun sp hsp a ha => ?_⟩
    simpa using (own_off I.wnodup hsp ha).1
  · obtain ⟨q, v, hv⟩ := I.cello z c hc
    exact ⟨q, v, hv.sameBut hs (hne c q)⟩
theorem InS.setC (I : InS prog w Hz hb s₀ X env C ρ O s) {x : String} {u : Value} {v : VV} {c : Addr} {h' : Heap} {tk : Nat} (hk : env.kindOf (Str.ofString x) = some .cell) (hc : env.cells.lookup (Str.ofString x) = some c)
    (hn : h'.IsCell c (some u)) (hs : Heap.SameBut c s.heap h') (r : RepVV prog w Hz s₀.heap (WW env C O) O s.heap x u v) :
    InS prog w Hz hb s₀ X env C (ρ.set x v) O { s with heap := h', toks := tk } := by
  have hcC : c ∈ C := by
    obtain ⟨c', a, b⟩ := I.fc x hk
    rw [hc] at a; (have e := si a; subst e; clear a); exact b
  have K : Wrote [c] (WW env C O) s.heap h' := by
    refine ⟨fun a ha => by rw [List.mem_singleton.mp ha]; exact List.mem_cons_of_mem _ (List.mem_append_left _ hcC), fun b o e hb' => (hs.2 b (by simpa using hb')).trans e, fun a ha => ?_⟩
    rw [List.mem_singleton.mp ha]
    obtain ⟨o, ho, hd⟩ := hn
    refine ⟨o, ho, fun ⟨vs, k, q⟩ => ?_⟩
    rw [q] at hd; cases hd
  obtain ⟨w1, w2, w3, w4, w5⟩ := I.toInF.wrote K
  obtain ⟨h0, t0, e0⟩ := I.same
  have hL : env.locals ≠ c := fun e => by
    have := I.wnodup
    unfold WW at this
    rw [List.nodup_cons] at this
    exact this.1 (e ▸ List.mem_append_left _ hcC)
  refine ⟨⟨⟨h', tk, by rw [e0]⟩, w1, w2, w3, w4, I.wfresh, I.wnodup, I.kind, I.glob, I.bult, I.clk, ?_, fun y vv e1 e2 => ?_⟩, I.fc, I.finj, fun z d hd => ?_⟩
  · obtain ⟨m, hm, hv⟩ := I.ns
    refine ⟨m, hm.sameBut hs hL, fun y vv e1 e2 => ?_⟩
    have hy : y ≠ x := fun q => by rw [q, hk] at e2; cases e2
    have e1' : (if y = x then some v else ρ y) = some vv := (set_if _ _ _ _).symm.trans e1
    rw [if_neg hy] at e1'
    obtain ⟨u', a, b⟩ := hv y vv e1' e2
    refine ⟨u', a, b.wrote w5 K.same fun sp hsp a ha => ?_⟩
    intro q
    exact (own_off I.wnodup hsp ha).2 ((List.mem_singleton.mp q) ▸ hcC)
  · have e1' : (if y = x then some v else ρ y) = some vv := (set_if _ _ _ _).symm.trans e1
    by_cases hy : y = x
    · subst hy
      rw [if_pos rfl] at e1'
      (have e := si e1'; subst e; clear e1')
      refine ⟨c, u, hc, hn, r.wrote w5 K.same fun sp hsp a ha q => ?_⟩
      exact (own_off I.wnodup hsp ha).2 ((List.mem_singleton.mp q) ▸ hcC)
    · rw [if_neg hy] at e1'
      obtain ⟨d, u', a, b, e⟩ := I.cell y vv e1' e2
      refine ⟨d, u', a, b.sameBut hs (fun q => ?_), e.wrote w5 K.same fun sp hsp a ha q => ?_⟩
      · exact hy (ofString_inj (I.finj _ _ _ (q ▸ a) hc))
      · exact (own_off I.wnodup hsp ha).2 ((List.mem_singleton.mp q) ▸ hcC)
  · obtain ⟨hq, v, hv⟩ := I.cello z d hd
    refine ⟨hq, ?_⟩
    by_cases q : d = c
    · exact ⟨some u, q ▸ hn⟩
    · exact ⟨v, hv.sameBut hs q⟩
theorem InS.store {A : Around} {E : Value → Shared → Prop} {Q : Unit → Shared → Prop} (I : InS prog w Hz hb s₀ X env C ρ O s) {x : String} {u : Value} {v : VV} (hk : isVar env.scope x = true) (r : RepVV prog w Hz s₀.heap (WW env C O) O s.heap x u v)
    (hQ : ∀ s', InS prog w Hz hb s₀ X env C (ρ.set x v) O s' → Step s.heap s'.heap (WW env C O) (WW env C O) → Q () s') : wpAny (model prog w) A (storeName env (Str.ofString x) u) Q E s := by
  simp only [isVar, Bool.and_eq_true, Bool.or_eq_true, decide_eq_true_eq] at hk
  rcases hk.1 with hk | hk
  · obtain ⟨m, hm, hv⟩ := I.ns
    exact wpAny_storeName_local hk hm (fun h' hn hs => hQ _ (I.setL hk hv hn hs r) ⟨fun b o e hb' => (hs.2 b fun q => hb' (q ▸ .head _)).trans e, fun _ h => .inl h⟩) (by rw [I.kind]; rfl)
  · obtain ⟨c, hc, hcC⟩ := I.fc x hk
    obtain ⟨_, v₀, hv₀⟩ := I.cello _ c hc
    exact wpAny_storeName_cell I.kind hk hc hv₀ fun h' hn hs => hQ _ (I.setC (tk := s.toks) hk hc hn hs r) ⟨fun b o e hb' => (hs.2 b fun q => hb' (q ▸ List.mem_cons_of_mem _ (List.mem_append_left _ hcC))).trans e, fun _ h => .inl h⟩

noncomputable def Rho.del (ρ : Rho) (x : String) : Rho := fun y => if y = x then none else ρ y
theorem del_set (ρ : Rho) (x : String) (v : VV) : (ρ.del x).set x v = ρ.set x v := by
  funext y
  by_cases h : y = x <;> simp [Rho.del, set_if, h]
theorem FlOk.more {s₀ h : Heap} {W : List Addr} {a : Addr} {f : Fl} {as : List Addr} (o : FlOk s₀ W f as) (al : ∀ b ∈ as, ∃ ob, h.get? b = some ob) (ha : h.get? a = none) {W' : List Addr} (hW : ∀ b, b ∈ W' → b = a ∨ b ∈ W) : FlOk s₀ W' f as := by
  have ne : ∀ b ∈ as, b ≠ a := fun b hb e => by
    obtain ⟨ob, q⟩ := al b hb
    rw [e, ha] at q; exact no q
  induction f with
  | d => exact fun b hb => ⟨(o b hb).1, fun hw => (hW b hw).elim (ne b hb) (o b hb).2⟩
  | s => exact fun b hb hw => (hW b hw).elim (ne b hb) (o b hb)
  | t => trivial
theorem RepVV.more {s₀ h : Heap} {W W' : List Addr} {O : List (String × List Addr)} {a : Addr} {x y : String} {u : Value} {vv : VV} (r : RepVV prog w Hz s₀ W O h y u vv) (ha : h.get? a = none) (hW : ∀ b, b ∈ W' → b = a ∨ b ∈ W) (hy : y ≠ x) :
    RepVV prog w Hz s₀ W' ((x, [a]) :: O) h y u vv := by
  induction vv with
  | val v =>
    obtain ⟨f, as, r, c, o⟩ := r
    exact ⟨f, as, r, c, o.more r.alive ha hW⟩
  | own o =>
    obtain ⟨sp, e, r⟩ := r
    have hyx : (y == x) = false := by simpa using hy
    refine ⟨sp, by rw [List.lookup_cons, hyx]; exact e, ?_⟩
    cases r with
    | lst a1 b c d => exact .lst a1 b c (d.more b.alive ha hW)
    | dct a1 g e' b c d => exact .dct a1 g e' b c (d.more b.alive ha hW)
    | tree a b c e f => exact .tree a b c e f
theorem InS.pushOwn (I : InS prog w Hz hb s₀ X env C ρ O s) (x : String) {o : Obj} (ho : ¬ Tup o) (hfree : o.isFreed = false) :
    InS prog w Hz hb s₀ X env C (ρ.del x) ((x, [s.heap.objs.size]) :: O) { s with heap := s.heap.push o } := by
  have hnone : s.heap.get? s.heap.objs.size = none := get?_size_none _ (Nat.le_refl _)
  have hW : ∀ b, b ∈ WW env C ((x, [s.heap.objs.size]) :: O) → b = s.heap.objs.size ∨ b ∈ WW env C O := by
    intro b hb'
    simp only [WW, List.flatMap_cons, List.mem_cons, List.mem_append, List.not_mem_nil, or_false] at hb' ⊢
    rcases hb' with h | h | h | h
    · exact .inr (.inl h)
    · exact .inr (.inr (.inl h))
    · exact .inl h
    · exact .inr (.inr (.inr h))
  have g := Grow.push s.heap o
  have new := Heap.get?_push_size s.heap hfree
  obtain ⟨fr1, fr2⟩ := I.toInF.fresh hnone
  have I' := I.grow (keeps_push s o)
  refine ⟨⟨I'.same, I'.base, I'.keep, I'.alive, fun a ha => ?_, fun a ha => ?_, ?_, I.kind, I.glob, I.bult, I.clk, ?_, fun y vv e1 e2 => ?_⟩, I.fc, I.finj, I'.cello⟩
  · rcases hW a ha with rfl | ha
    · exact ⟨o, new, ho⟩
    · exact I'.walive a ha
  · rcases hW a ha with rfl | ha
    · refine ⟨?_, fun _ => fr1⟩
      cases e : hb.get? s.heap.objs.size with
      | none => rfl
      | some o' => rw [I.base.grow _ _ e] at hnone; cases hnone
    · exact I.wfresh a ha
  · have q : (s.heap.objs.size :: WW env C O).Nodup := List.nodup_cons.mpr ⟨fr2, I.wnodup⟩
    refine List.Perm.nodup ?_ q
    unfold WW
    rw [List.flatMap_cons]
    exact (List.Perm.swap ..).trans (List.Perm.cons _ List.perm_middle.symm)
  · obtain ⟨m, hm, hv⟩ := I.ns
    refine ⟨m, hm.push o, fun y vv e1 e2 => ?_⟩
    have e1' : (if y = x then none else ρ y) = some vv := e1
    by_cases hy : y = x
    · rw [if_pos hy] at e1'; exact no e1'
    · rw [if_neg hy] at e1'
      obtain ⟨u, a, b⟩ := hv y vv e1' e2
      exact ⟨u, a, (b.more hnone hW hy).grow g⟩
  · have e1' : (if y = x then none else ρ y) = some vv := e1
    by_cases hy : y = x
    · rw [if_pos hy] at e1'; exact no e1'
    · rw [if_neg hy] at e1'
      obtain ⟨c, u, a, b, d⟩ := I.cell y vv e1' e2
      exact ⟨c, u, a, isCell_grow b g, (d.more hnone hW hy).grow g⟩
theorem push_step {o : Obj} (x : String) : Step s.heap (s.heap.push o) (WW env C O) (WW env C ((x, [s.heap.objs.size]) :: O)) := by
  refine ⟨fun b ob e _ => Heap.get?_push_of_some o e, fun b hb' => ?_⟩
  simp only [WW, List.flatMap_cons, List.mem_cons, List.mem_append, List.not_mem_nil, or_false] at hb' ⊢
  rcases hb' with h | h | h | h
  · exact .inl (.inl h)
  · exact .inl (.inr (.inl h))
  · exact .inr (h ▸ get?_size_none _ (Nat.le_refl _))
  · exact .inl (.inr (.inr h))
end

section
variable {s₀ s : Shared} {X : List Addr} {env : Env} {C : List Addr} {ρ : Rho} {O : List (String × List Addr)}
theorem InS.updOwn (I : InS prog w Hz hb s₀ X env C ρ O s) {x : String} {o o' : Own} {a : Addr} {h' : Heap} {tk : Nat} (hx : ρ x = some (.own o)) (hO : O.lookup x = some [a]) (hs : Heap.SameBut a s.heap h')
    (ht : ∃ ob, h'.get? a = some ob ∧ ¬ Tup ob) (hup : ∀ u, RepO prog w Hz s₀.heap (WW env C O) s.heap u o [a] → Off (WW env C O) s.heap h' → RepO prog w Hz s₀.heap (WW env C O) h' u o' [a]) :
    InS prog w Hz hb s₀ X env C (ρ.set x (.own o')) O { s with heap := h', toks := tk } := by
  have haW : a ∈ WW env C O := own_sub hO (.head _)
  have K : Wrote [a] (WW env C O) s.heap h' :=
    ⟨fun b hb' => by rw [List.mem_singleton.mp hb']; exact haW, fun b ob e hb' => (hs.2 b (by simpa using hb')).trans e, fun b hb' => by rw [List.mem_singleton.mp hb']; exact ht⟩
  obtain ⟨w1, w2, w3, w4, w5⟩ := I.toInF.wrote K
  obtain ⟨h0, t0, e0⟩ := I.same
  obtain ⟨hL, hC⟩ := own_off I.wnodup hO (a := a) (.head _)
  have other : ∀ y, y ≠ x → ∀ sp, O.lookup y = some sp → ∀ b ∈ sp, b ∉ [a] := by
    intro y hy sp hsp b hb' hq
    rw [List.mem_singleton] at hq
    subst hq
    have m1 := lookup_mem hO
    have m2 := lookup_mem hsp
    have nd : (O.flatMap (·.2)).Nodup := by
      have := I.wnodup
      unfold WW at this
      rw [List.nodup_cons, List.nodup_append] at this
      exact this.2.2.1
    clear hO hsp K w1 w2 w3 w4 w5 I ht hup haW hx e0
    induction O with
    | nil => cases m1
    | cons p O ih =>
      rw [List.flatMap_cons, List.nodup_append] at nd
      rcases List.mem_cons.mp m1 with e1 | m1 <;> rcases List.mem_cons.mp m2 with e2 | m2
      · rw [← e1] at e2; exact hy (congrArg Prod.fst e2)
      · exact nd.2.2 b (by rw [← e1]; exact .head _) b (List.mem_flatMap.mpr ⟨_, m2, hb'⟩) rfl
      · exact nd.2.2 b (by rw [← e2]; exact hb') b (List.mem_flatMap.mpr ⟨_, m1, .head _⟩) rfl
      · exact ih m1 m2 nd.2.1
  refine ⟨⟨⟨h', tk, by rw [e0]⟩, w1, w2, w3, w4, I.wfresh, I.wnodup, I.kind, I.glob, I.bult, I.clk, ?_, fun y vv e1 e2 => ?_⟩, I.fc, I.finj, fun z c hc => ?_⟩
  · obtain ⟨m, hm, hv⟩ := I.ns
    refine ⟨m, hm.sameBut hs (Ne.symm hL), fun y vv e1 e2 => ?_⟩
    have e1' : (if y = x then some (VV.own o') else ρ y) = some vv := (set_if _ _ _ _).symm.trans e1
    by_cases hy : y = x
    · subst hy
      rw [if_pos rfl] at e1'; (have e := si e1'; subst e; clear e1')
      obtain ⟨u, b, sp, d, r⟩ := hv y _ hx e2
      rw [hO] at d; (have e := si d; subst e; clear d)
      exact ⟨u, b, [a], hO, hup u r w5⟩
    · rw [if_neg hy] at e1'
      obtain ⟨u, b, r⟩ := hv y vv e1' e2
      exact ⟨u, b, r.wrote w5 K.same (other y hy)⟩
  · have e1' : (if y = x then some (VV.own o') else ρ y) = some vv := (set_if _ _ _ _).symm.trans e1
    obtain ⟨c, hc, hcC⟩ := I.fc y e2
    have hca : c ≠ a := fun q => hC (q ▸ hcC)
    by_cases hy : y = x
    · subst hy
      rw [if_pos rfl] at e1'; (have e := si e1'; subst e; clear e1')
      obtain ⟨c', u, b1, b2, sp, d, r⟩ := I.cell y _ hx e2
      rw [hc] at b1; (have e := si b1; subst e; clear b1)
      rw [hO] at d; (have e := si d; subst e; clear d)
      exact ⟨c, u, hc, b2.sameBut hs hca, [a], hO, hup u r w5⟩
    · rw [if_neg hy] at e1'
      obtain ⟨c', u, b1, b2, r⟩ := I.cell y vv e1' e2
      rw [hc] at b1; (have e := si b1; subst e; clear b1)
      exact ⟨c, u, hc, b2.sameBut hs hca, r.wrote w5 K.same (other y hy)⟩
  · obtain ⟨q', v, hv⟩ := I.cello z c hc
    exact ⟨q', v, hv.sameBut hs fun q => hC (q ▸ q')⟩
theorem InS.owned (I : InS prog w Hz hb s₀ X env C ρ O s) {x : String} {o : Own} {pos : Pos} {A : Around} {E : Value → Shared → Prop} {Q : Value → Shared → Prop} (hv : isVar env.scope x = true) (hx : ρ x = some (.own o)) (ho : ∀ a d, o ≠ .tree a d)
    (hQ : ∀ a, O.lookup x = some [a] → RepO prog w Hz s₀.heap (WW env C O) s.heap (.ref a) o [a] → Q (.ref a) s) : wpAny (model prog w) A (eval (.Name (Str.ofString x) pos) env) Q E s := by
  simp only [isVar, Bool.and_eq_true, Bool.or_eq_true, decide_eq_true_eq, Bool.not_eq_true'] at hv
  obtain ⟨hv, hd⟩ := hv
  have fin : ∀ u sp, O.lookup x = some sp → RepO prog w Hz s₀.heap (WW env C O) s.heap u o sp → Q u s := by
    intro u sp e r
    induction r with
    | lst a b c d => exact hQ _ e (.lst a b c d)
    | dct a g e' b c d => exact hQ _ e (.dct a g e' b c d)
    | tree a b c _ _ => exact absurd rfl (ho _ _)
  rcases hv with hv | hv
  · obtain ⟨m, hns, hm⟩ := I.ns
    obtain ⟨u, hu, sp, e, r⟩ := hm x _ hx hv
    exact wpAny_Name (wpAny_loadName_local I.kind hv hns hu (fin u sp e r)) hd
  · obtain ⟨c, u, hc, hu, sp, e, r⟩ := I.cell x _ hx hv
    exact wpAny_Name (wpAny_loadName_cell I.kind hv hc hu (fin u sp e r)) hd
end

noncomputable def S1 (prog : Program) (w : World) (hb : Heap) (n : Nat) (sc : Scope) (st : Stmt) (m : Rho → Option Out) : Prop :=
  ∀ ⦃A : Around⦄ ⦃Hz : List Addr⦄ ⦃env : Env⦄ ⦃s₀ : Shared⦄ ⦃X C : List Addr⦄ ⦃ρ : Rho⦄ ⦃O : List (String × List Addr)⦄ ⦃s : Shared⦄ ⦃r : Out⦄ ⦃Q : Flow → Shared → Prop⦄ ⦃E : Value → Shared → Prop⦄,
    env.scope = sc → RoomF A n → InS prog w Hz hb s₀ X env C ρ O s → m ρ = some r → Ends prog w Hz hb s₀ X env C O s r Q → wpAny (model prog w) A (exec st env) Q E s
theorem St.nil : St prog w hb n sc [] (fun ρ => some (.next ρ)) := by
  intro A Hz env s₀ X C ρ O s r Q E hs hA I hm hQ
  (have e := si hm; subst e; clear hm)
  exact wpAny_execs_nil (hQ O s I (Step.refl _ _))
noncomputable def thenB (m : Rho → Option Out) : Out → Option Out
  | .next ρ => m ρ
  | o => some o
theorem St.cons {st : Stmt} {rest : List Stmt} {m m' : Rho → Option Out} (h : S1 prog w hb n sc st m) (h' : St prog w hb n sc rest m') : St prog w hb n sc (st :: rest) (fun ρ => (m ρ).bind (thenB m')) := by
  intro A Hz env s₀ X C ρ O s r Q E hs hA I
  refine bindI fun o ho hm hQ => ?_
  refine wpAny_execs_cons (h hs hA I ho ?_)
  induction o with
  | next ρ' => exact fun O s' I' t => h' hs hA I' hm (hQ.trans t)
  | brk ρ' => (have e := si hm; subst e; clear hm); exact hQ
  | cont ρ' => (have e := si hm; subst e; clear hm); exact hQ
  | ret x => (have e := si hm; subst e; clear hm); exact hQ
  | retT x ρ' => (have e := si hm; subst e; clear hm); exact hQ
noncomputable def putV (ρ : Rho) (x : String) (v : V) : Option Out := match v.fl with
  | .t => none
  | _ => some (.next (ρ.set x (.val v)))
theorem putV_some {ρ : Rho} {x : String} {v : V} {r : Out} (h : putV ρ x v = some r) : (v.fl = .d ∨ v.fl = .s) ∧ r = .next (ρ.set x (.val v)) := by
  unfold putV at h
  split at h
  · exact no h
  · rename_i hf
    (have e := si h; subst e; clear h)
    refine ⟨?_, rfl⟩
    cases e : v.fl with
    | d => exact .inl rfl
    | s => exact .inr rfl
    | t => exact absurd e hf
theorem S1.assign {x : String} {e : Expr} {p pos : Pos} {m : Rho → Option V} (h : Ev prog w hb n sc e m) (hv : isVar sc x = true) (hsw : ∀ env : Env, env.scope = sc → swapsWith e (some (.Name (Str.ofString x) p)) pos.line env = pure false := by intro _ _; rfl) :
    S1 prog w hb n sc (.Assign [.Name (Str.ofString x) p] e pos) (fun ρ => (m ρ).bind (putV ρ x)) := by
  intro A Hz env s₀ X C ρ O s r Q E hs hA I
  refine bindI fun v hv' hm hQ => ?_
  obtain ⟨hf, rfl⟩ := putV_some hm
  refine wpAny_Assign_Name (h hs hA I.toInF hv' fun u s₁ k₁ r₁ => ?_) (hsw env hs)
  exact (I.grow k₁).store (v := .val v) (by rw [hs]; exact hv) ⟨hf, r₁⟩ fun s' I' t => hQ O s' I' ((Step.of_grow (keeps_grow k₁)).trans t)
noncomputable def retV : V → Option Out
  | ⟨x, .d⟩ => some (.ret x)
  | _ => none
theorem S1.ret {e : Expr} {pos : Pos} {m : Rho → Option V} (h : Ev prog w hb n sc e m) : S1 prog w hb n sc (.Return (some e) pos) (fun ρ => (m ρ).bind retV) := by
  intro A Hz env s₀ X C ρ O s r Q E hs hA I
  refine bindI fun v hv' hm hQ => ?_
  obtain ⟨x, f⟩ := v
  cases f with
  | d =>
    (have e := si hm; subst e; clear hm)
    refine wpAny_Return_some (h hs hA I.toInF hv' fun u s₁ k₁ r₁ => ?_)
    obtain ⟨as, ra, ca, oa⟩ := r₁
    exact hQ u as O ρ s₁ (I.grow k₁) ra ca fun a ha => .inr (oa a ha).1
  | _ => exact no hm
theorem S1.retOwn {x : String} {p pos : Pos} (hv : isVar sc x = true) : S1 prog w hb n sc (.Return (some (.Name (Str.ofString x) p)) pos) (fun ρ => match ρ x with | some (.own (.lst xs)) => some (.ret (.list xs)) | _ => none) := by
  intro A Hz env s₀ X C ρ O s r Q E hs hA I hm hQ
  dsimp only at hm
  split at hm
  · rename_i xs hx
    cases hm
    refine wpAny_Return_some (I.owned (by rw [hs]; exact hv) hx (fun _ _ q => by cases q) fun a hO r => ?_)
    cases r with
    | lst a1 b c d =>
      refine hQ _ _ O ρ s I (.list a1 b) c fun y hy => ?_
      rcases List.mem_cons.mp hy with rfl | hy
      · by_cases hX : y ∈ X
        · exact .inl hX
        · exact .inr ((I.wfresh y (own_sub hO (.head _))).2 hX)
      · exact .inr (d y hy).1
  · exact no hm
theorem S1.if {t : Expr} {b o : List Stmt} {pos : Pos} {mt : Rho → Option Bool} {mb mo : Rho → Option Out} (ht : Tr prog w hb n sc t mt) (h1 : St prog w hb n sc b mb) (h2 : St prog w hb n sc o mo) :
    S1 prog w hb n sc (.If t b o pos) (fun ρ => (mt ρ).bind fun c => if c then mb ρ else mo ρ) := by
  intro A Hz env s₀ X C ρ O s r Q E hs hA I
  refine bindI fun c hc hm hQ => ?_
  refine wpAny_If (ht hs hA I.toInF hc fun s₁ k₁ => ?_)
  induction c with
  | true => exact h1 hs hA (I.grow k₁) hm (hQ.trans (Step.of_grow (keeps_grow k₁)))
  | false => exact h2 hs hA (I.grow k₁) hm (hQ.trans (Step.of_grow (keeps_grow k₁)))

theorem not_tup_lst (vs : List Value) (k : Nat) : ¬ Tup (lstObj vs k) := by
  rintro ⟨_, _, q⟩
  have := congrArg Obj.cls q
  simp at this
theorem not_tup_dct {o : Obj} (h : o.cls = .type "dict") : ¬ Tup o := by
  rintro ⟨_, _, q⟩
  have := congrArg Obj.cls q
  rw [h] at this
  simp at this
theorem upd_step {O : List (String × List Addr)} {env : Env} {C : List Addr} {x : String} {a : Addr} {h h' : Heap} (hO : O.lookup x = some [a]) (hs : Heap.SameBut a h h') : Step h h' (WW env C O) (WW env C O) :=
  ⟨fun b o e hb' => (hs.2 b fun q => hb' (q ▸ own_sub hO (.head _))).trans e, fun _ h => .inl h⟩
theorem S1.ownList {x : String} {es : List Expr} {lp p pos : Pos} {ms : Rho → Option (List V)} (h : Evs prog w hb n sc es ms) (hv : isVar sc x = true) :
    S1 prog w hb n sc (.Assign [.Name (Str.ofString x) p] (.List es lp) pos) (fun ρ => (ms ρ).bind fun vs => if vs.length ≤ sizeLine ∧ flsOf vs = .d then some (.next (ρ.set x (.own (.lst (vs.map (·.x)))))) else none) := by
  intro A Hz env s₀ X C ρ O s r Q E hs hA I
  refine bindI fun vs hvs => ifI fun hz hm hQ => ?_
  · (have e := si hm; subst e; clear hm)
    refine wpAny_Assign_Name (wpAny_List (h hs hA I.toInF hvs fun us s₁ k₁ r₁ => ⟨by rw [r₁.length]; exact hz.1, ?_⟩)) rfl
    obtain ⟨as, r, c, o⟩ := r₁.rds
    rw [hz.2] at o
    have I₁ := I.grow k₁
    have I₂ := I₁.pushOwn x (o := lstObj us 0) (not_tup_lst _ _) rfl
    have hnone : s₁.heap.get? s₁.heap.objs.size = none := get?_size_none _ (Nat.le_refl _)
    refine I₂.store (v := .own (.lst (vs.map (·.x)))) (by rw [hs]; exact hv) ⟨[s₁.heap.objs.size], by rw [List.lookup_cons, beq_self_eq_true], ?_⟩ fun s' I' t => hQ _ s' (by rw [← del_set]; exact I') ((Step.of_grow (keeps_grow k₁)).trans ((push_step x).trans t))
    refine .lst (as := as) (Heap.get?_push_size _ rfl) (r.grow (Grow.push _ _)) (wf_list.mpr ⟨by simpa using hz.1, c⟩) (o.more r.alive hnone fun b hb' => ?_)
    simp only [WW, List.flatMap_cons, List.mem_cons, List.mem_append, List.not_mem_nil, or_false] at hb' ⊢
    rcases hb' with h | h | h | h
    · exact .inr (.inl h)
    · exact .inr (.inr (.inl h))
    · exact .inl h
    · exact .inr (.inr (.inr h))
theorem S1.ownDict {x : String} {lp p pos : Pos} (hv : isVar sc x = true) :
    S1 prog w hb n sc (.Assign [.Name (Str.ofString x) p] (.Dict [] [] lp) pos) (fun ρ => some (.next (ρ.set x (.own (.dct []))))) := by
  intro A Hz env s₀ X C ρ O s r Q E hs hA I hm hQ
  (have e := si hm; subst e; clear hm)
  refine wpAny_Assign_Name (wpAny_Dict_empty ?_) rfl
  have I₂ := I.pushOwn x (o := { cls := .type "dict", data := .dict #[] }) (not_tup_dct rfl) rfl
  have hmod : (s.heap.objs.size == sysModules) = false := by
    obtain ⟨o, ho⟩ := I.base.mods
    have := Heap.lt_size (I.base.grow _ _ ho)
    simpa using (Nat.ne_of_gt this)
  refine I₂.store (v := .own (.dct [])) (by rw [hs]; exact hv) ⟨[s.heap.objs.size], by rw [List.lookup_cons, beq_self_eq_true], ?_⟩ fun s' I' t => hQ _ s' (by rw [← del_set]; exact I') ((push_step x).trans t)
  exact .dct (kvs := []) (as := []) (Heap.DictOf.new _) hmod rfl .nil (by decide) FlOk.nil
theorem mapSeq_lst (vs : List Value) (k : Nat) (f : Array Value → Array Value) : ∃ k', Obj.mapSeq f (lstObj vs k) = lstObj (f vs.toArray).toList k' := ⟨_, rfl⟩
theorem S1.append {x : String} {e : Expr} {p ap cp pos : Pos} {m : Rho → Option V} (h : Ev prog w hb n sc e m) (hv : isVar sc x = true) (he : ∀ env, starEach [e] env = [(false, eval e env)]) (hl : (ap.endLine == cp.line) = true)
    (hi : ∀ env : Env, env.scope = sc → interactive env = false) :
    S1 prog w hb n sc (.Expr (.Call (.Attribute (.Name (Str.ofString x) p) (Str.ofString "append") ap) [e] [] cp) pos)
      (fun ρ => match ρ x with | some (.own (.lst xs)) => (m ρ).bind fun v => if v.fl = .d ∧ xs.length + 1 ≤ sizeLine then some (.next (ρ.set x (.own (.lst (xs ++ [v.x]))))) else none | _ => none) := by
  intro A Hz env s₀ X C ρ O s r Q E hs hA I hm hQ
  dsimp only at hm
  split at hm
  · rename_i xs hx
    obtain ⟨v, hv', hm⟩ := bindE hm
    revert hm
    refine ifI fun hz hm => ?_
    · cases hm
      refine wpAny_Expr (wpAny_Call_method rfl (by rw [he]; rfl) hl F.plainAttrs_list F.slot_list_append F.type_list_append (I.owned (by rw [hs]; exact hv) hx (fun _ _ q => by cases q) fun a hO r => ?_)) (hi env hs)
      cases r with
      | lst a1 b c d =>
        rename_i vs k as
        refine ⟨⟨_, a1, rfl⟩, fun a' ea => by cases ea; exact ⟨_, a1, rfl⟩, ?_⟩
        rw [he]
        show wpAny _ _ (callWith cp (.builtin "list.append") [.ref a] [(false, eval e env)] []) _ _ _
        refine P.append_list (h hs hA I.toInF hv' fun u s₁ k₁ r₁ => ?_)
        have I₁ := I.grow k₁
        have a1' := keeps_grow k₁ _ _ a1
        rw [wf_list] at c
        have hlen := b.length
        refine ⟨vs.toArray, k, by simp [hlen]; exact c.1, a1', ?_⟩
        obtain ⟨k', ek⟩ := mapSeq_lst vs k (fun xs => xs.push u)
        have hnew : (s₁.heap.update a (Obj.mapSeq fun xs => xs.push u)).get? a = some (lstObj (vs ++ [u]) k') := by
          rw [Heap.get?_update_self _ a1' rfl, ek]; simp
        refine hQ O _ (I₁.updOwn (tk := s₁.toks) hx hO (Heap.SameBut.update _ _ _) ⟨_, hnew, not_tup_lst _ _⟩ fun u' r' off => ?_) ((Step.of_grow (keeps_grow k₁)).trans (upd_step hO (Heap.SameBut.update _ _ _)))
        obtain ⟨bs, rv, cv, ov⟩ := r₁
        rw [hz.1] at ov
        cases r' with
        | lst a2 b2 c2 d2 =>
          refine .lst (as := as ++ (bs ++ [])) hnew (((b.grow (keeps_grow k₁)).off off fun y hy => (d y hy).2).append (.cons (rv.off off fun y hy => (ov y hy).2) .nil)) (wf_list.mpr ⟨by simpa using hz.2, ?_⟩) ?_
          · rw [wfs_append, c.2]; simp [wfs, cv]
          · rw [List.append_nil]; exact FlOk.append d ov
  · exact no hm

noncomputable def putKey (kvs : List (Str × PyData)) (k : Str) (v : PyData) : List (Str × PyData) :=
  if kvs.any (fun p => p.1 = k) then kvs.map (fun p => if p.1 = k then (p.1, v) else p) else kvs ++ [(k, v)]
theorem any_keys {β γ : Type} (k : Str) : ∀ {kvs : List (Str × β)} {xs : List (Str × γ)}, kvs.map (·.1) = xs.map (·.1) → kvs.any (fun p => decide (p.1 = k)) = xs.any (fun p => decide (p.1 = k))
  | [], [], _ => rfl
  | [], _ :: _, h => by simp at h
  | _ :: _, [], h => by simp at h
  | p :: kvs, q :: xs, h => by
    simp only [List.map_cons, List.cons.injEq] at h
    simp only [List.any_cons, any_keys k h.2, h.1]
theorem stored_rds {h : Heap} {k : Str} {v : Value} {x : PyData} {bs : List Addr} (rv : RD prog w Hz h v x bs) : ∀ {kvs : List (Str × Value)} {xs : List (Str × PyData)} {as : List Addr}, kvs.map (·.1) = xs.map (·.1) → RDs prog w Hz h (kvs.map (·.2)) (xs.map (·.2)) as →
    ∃ cs, RDs prog w Hz h ((kvs.map (fun kv => if kv.1 = k then (kv.1, v) else kv)).map (·.2)) ((xs.map (fun p => if p.1 = k then (p.1, x) else p)).map (·.2)) cs ∧ (∀ c ∈ cs, c ∈ as ∨ c ∈ bs) ∧
      (kvs.map (fun kv => if kv.1 = k then (kv.1, v) else kv)).map (·.1) = (xs.map (fun p => if p.1 = k then (p.1, x) else p)).map (·.1)
  | [], [], as, _, r => ⟨as, r, fun _ h => .inl h, rfl⟩
  | [], _ :: _, _, h, _ => by simp at h
  | _ :: _, [], _, h, _ => by simp at h
  | p :: kvs, q :: xs, _, h, r => by
    simp only [List.map_cons, List.cons.injEq] at h
    cases r with
    | cons r1 r2 =>
      rename_i a1 a2
      obtain ⟨cs, e1, e2, e3⟩ := stored_rds rv h.2 r2
      by_cases hk : q.1 = k
      · refine ⟨bs ++ cs, ?_, ?_, ?_⟩
        · simp only [List.map_cons, h.1, hk, if_true]; exact .cons rv e1
        · intro c hc
          rcases List.mem_append.mp hc with hc | hc
          · exact .inr hc
          · exact (e2 c hc).imp (List.mem_append_right _) id
        · simp only [List.map_cons, h.1, hk, if_true, e3]
      · refine ⟨a1 ++ cs, ?_, ?_, ?_⟩
        · simp only [List.map_cons, h.1, hk, if_false]; exact .cons r1 e1
        · intro c hc
          rcases List.mem_append.mp hc with hc | hc
          · exact .inl (List.mem_append_left _ hc)
          · exact (e2 c hc).imp (List.mem_append_right _) id
        · simp only [List.map_cons, h.1, hk, if_false, e3]
theorem wfk_dictOf : ∀ (xs : List (Str × PyData)), wfk (xs.map fun p => (.str p.1, p.2)) = true ↔ ∀ p ∈ xs, wf (.str p.1) = true ∧ wf p.2 = true
  | [] => by simp [wfk]
  | p :: xs => by simp [wfk, wfk_dictOf xs]
theorem wf_dictOf {xs : List (Str × PyData)} : wf (dictOf xs) = true ↔ xs.length ≤ sizeLine ∧ ∀ p ∈ xs, wf (.str p.1) = true ∧ wf p.2 = true := by
  simp only [wf, dictOf, Bool.and_eq_true, decide_eq_true_eq, List.length_map, wfk_dictOf]
theorem wf_putKey {xs : List (Str × PyData)} {k : Str} {v : PyData} (h : wf (dictOf xs) = true) (hk : wf (.str k) = true) (hv : wf v = true) (hz : xs.length + 1 ≤ sizeLine) : wf (dictOf (putKey xs k v)) = true := by
  rw [wf_dictOf] at h ⊢
  unfold putKey
  split
  · refine ⟨by simpa using h.1, fun p hp => ?_⟩
    obtain ⟨q, hq, rfl⟩ := List.mem_map.mp hp
    split
    · exact ⟨(h.2 q hq).1, hv⟩
    · exact h.2 q hq
  · refine ⟨by simpa using hz, fun p hp => ?_⟩
    rcases List.mem_append.mp hp with hp | hp
    · exact h.2 p hp
    · rw [List.mem_singleton.mp hp]; exact ⟨hk, hv⟩
theorem S1.setKey {x : String} {i e : Expr} {np p pos : Pos} {mi m : Rho → Option V} (hi : Ev prog w hb n sc i mi) (h : Ev prog w hb n sc e m) (hv : isVar sc x = true) (hsw : ∀ env : Env, swapsWith e (some (.Subscript (.Name (Str.ofString x) np) i p)) pos.line env = pure false) :
    S1 prog w hb n sc (.Assign [.Subscript (.Name (Str.ofString x) np) i p] e pos)
      (fun ρ => match ρ x with | some (.own (.dct kvs)) => (m ρ).bind fun v => (mi ρ).bind fun k => (match k.x with | .str key => if v.fl = .d ∧ kvs.length + 1 ≤ sizeLine then some (.next (ρ.set x (.own (.dct (putKey kvs key v.x))))) else none | _ => none) | _ => none) := by
  intro A Hz env s₀ X C ρ O s r Q E hs hA I hm hQ
  dsimp only at hm
  split at hm
  · rename_i kvs hx
    obtain ⟨v, hv', hm⟩ := bindE hm
    obtain ⟨⟨kx, kf⟩, hk', hm⟩ := bindE hm
    dsimp only at hm
    split at hm
    · rename_i key
      revert hm
      refine ifI fun hz hm => ?_
      · cases hm
        refine wpAny_Assign_Subscript (h hs hA I.toInF hv' fun u s₁ k₁ r₁ => (I.grow k₁).owned (by rw [hs]; exact hv) hx (fun _ _ q => by cases q) fun a hO r => hi hs hA (I.grow k₁).toInF hk' fun ku s₂ k₂ r₂ => ?_) (hsw env)
        have I₂ := (I.grow k₁).grow k₂
        have r := r.grow (keeps_grow k₂)
        have r₁ := r₁.grow (keeps_grow k₂)
        obtain ⟨cs, rk, ck, ok⟩ := r₂
        cases rk
        cases r with
        | dct a1 g b c d e' =>
          rename_i kvs' as
          have hlen : kvs'.length = kvs.length := by simpa using congrArg List.length b
          have hd := wf_dictOf.mp d
          refine wpAny_setItem_pairs (knd := strKind prog w) (strKey _ _) a1 (fun h' hm' hs' => ?_) (by lia)
          have hnew : ∃ ob, h'.get? a = some ob ∧ ¬ Tup ob := by
            obtain ⟨o, es, ep, ho, hx, _⟩ := hm'
            exact ⟨o, ho, not_tup_dct hx.1⟩
          refine hQ O _ (I₂.updOwn hx hO hs' hnew fun u' r' off => ?_) ((Step.of_grow (Grow.trans (keeps_grow k₁) (keeps_grow k₂))).trans (upd_step hO hs'))
          obtain ⟨bs, rv, cv, ov⟩ := r₁
          rw [hz.1] at ov
          cases r' with
          | dct a2 g2 b2 c2 d2 e2 =>
            have c' := c.off off fun y hy => (e' y hy).2
            have rv' := rv.off off fun y hy => (ov y hy).2
            have wfn := wf_putKey d ck cv hz.2
            have ha := any_keys key b
            unfold stored at hm'
            unfold putKey at wfn ⊢
            cases hq : kvs.any (fun p => decide (p.1 = key)) with
            | true =>
              rw [hq] at ha
              simp only [ha, if_true] at hm'
              simp only [hq, if_true] at wfn ⊢
              obtain ⟨cs', q1, q2, q3⟩ := stored_rds (k := key) rv' b c'
              exact .dct hm' g q3 q1 wfn fun y hy => (q2 y hy).elim (e' y) (ov y)
            | false =>
              rw [hq] at ha
              simp only [ha, Bool.false_eq_true, if_false] at hm'
              simp only [hq, Bool.false_eq_true, if_false] at wfn ⊢
              refine .dct (as := as ++ (bs ++ [])) hm' g (by simp [b]) ?_ wfn ?_
              · rw [List.map_append, List.map_append]; exact c'.append (.cons rv' .nil)
              · rw [List.append_nil]; exact FlOk.append e' ov
    · exact no hm
  · exact no hm

noncomputable def Inert (Hz : List Addr) (h h' : Heap) : Prop := ∀ b o, h.get? b = some o → (∀ fs, o.data = .fields fs → ∀ T, o.cls ≠ .type T) → (b ∈ Hz → ¬ Tup o) → h'.get? b = some o
section
variable {h h' : Heap}
theorem IAt.inert (k : Inert Hz h h') {a dx C : Addr} {m : Str → Option Value} (i : IAt h a dx C m) : IAt h' a dx C m := by
  obtain ⟨o, h1, h2, h3, h4, h5, o', es, ep, g1, g2, g3⟩ := i
  exact ⟨o, k _ _ h1 (fun _ _ T e => by rw [h2] at e; cases e) (fun _ => by rintro ⟨vs, n, rfl⟩; cases h2), h2, h3, h4, h5, o', es, ep, k _ _ g1 (fun fs e => by rw [g2] at e; cases e) (fun _ => by rintro ⟨vs, n, rfl⟩; cases g2), g2, g3⟩
theorem ValAt.inert (k : Inert Hz h h') {V b db : Addr} {x y : Int} (i : ValAt h V b db x y) : ValAt h' V b db x y := by
  obtain ⟨m, t, u, i, r1, r2, r3⟩ := i
  exact ⟨m, t, u, i.inert k, r1, r2, r3⟩
theorem StoreAt.inert (k : Inert Hz h h') {a dx C V p hd : Addr} {pool : List (Addr × Addr)} {f : StF} {vs : List Value} {m : Str → Option Value} {ks : List (Str × Value)} (i : StoreAt prog w h a dx C V p hd pool f vs m ks) : StoreAt prog w h' a dx C V p hd pool f vs m ks :=
  { i with
    obj := i.obj.inert k
    dict := by obtain ⟨o, es, ep, ho, q1, q2, q⟩ := i.dict; exact ⟨o, es, ep, k _ _ ho (fun _ z => by rw [q2] at z; cases z) (fun _ => not_tup_dct q1.1), q1, q2, q⟩
    each := fun j b db x y e1 e2 => (i.each j b db x y e1 e2).inert k }
theorem inert_both (k : Inert Hz h h') : (∀ {v x as}, RD prog w Hz h v x as → RD prog w Hz h' v x as) ∧ ∀ {vs xs as}, RDs prog w Hz h vs xs as → RDs prog w Hz h' vs xs as :=
  RD.both .none .bool .int .str (fun a _ r => .list (k _ _ a (fun _ q => by cases q) fun _ => not_tup_lst _ _) r) (fun a z _ r => .tuple (k _ _ a (fun _ q => by cases q) fun hz => absurd hz z) z r)
    (fun q g e _ r => .dict (by obtain ⟨o, es, ep, ho, q1, q2, q⟩ := q; exact ⟨o, es, ep, k _ _ ho (fun _ z => by rw [q2] at z; cases z) (fun _ => not_tup_dct q1.1), q1, q2, q⟩) g e r) (fun i => .val (i.inert k)) (fun i _ r => .store (i.inert k) r) (fun i q e n _ r => .inst (i.inert k) q e n r) .nil (fun _ _ a r => .cons a r)
theorem RD.inert (k : Inert Hz h h') {v : Value} {x : PyData} {as : List Addr} (r : RD prog w Hz h v x as) : RD prog w Hz h' v x as := (inert_both k).1 r
theorem RDs.inert (k : Inert Hz h h') {vs : List Value} {xs : List PyData} {as : List Addr} (r : RDs prog w Hz h vs xs as) : RDs prog w Hz h' vs xs as := (inert_both k).2 r
theorem Rep.inert {s₀ : Heap} {W : List Addr} {u : Value} {v : V} (r : Rep prog w Hz s₀ W h u v) (k : Inert Hz h h') : Rep prog w Hz s₀ W h' u v := by
  obtain ⟨as, r, c, f⟩ := r; exact ⟨as, r.inert k, c, f⟩
theorem RepVV.inert {s₀ : Heap} {W : List Addr} {O : List (String × List Addr)} {x : String} {u : Value} {v : VV} (r : RepVV prog w Hz s₀ W O h x u v) (k : Inert Hz h h') : RepVV prog w Hz s₀ W O h' x u v := by
  cases v with
  | val v => exact ⟨r.1, r.2.inert k⟩
  | own o =>
    obtain ⟨sp, hsp, r⟩ := r
    refine ⟨sp, hsp, ?_⟩
    clear hsp
    induction r with
    | lst a b c d => exact .lst (k _ _ a (fun _ q => by cases q) fun _ => not_tup_lst _ _) (b.inert k) c d
    | dct a g e b c d =>
      obtain ⟨o, es, ep, ho, q1, q2, q⟩ := a
      exact .dct ⟨o, es, ep, k _ _ ho (fun _ z => by rw [q2] at z; cases z) (fun _ => not_tup_dct q1.1), q1, q2, q⟩ g e (b.inert k) c d
    | tree a b c e f => exact .tree (a.inert k) b c e f
theorem Inert.of {wr Zs : List Addr} (hin : ∀ b ∈ wr, b ∉ Zs → ∃ o fs T, h.get? b = some o ∧ o.data = .fields fs ∧ o.cls = .type T) (ht : ∀ z ∈ Zs, ∃ o, h.get? z = some o ∧ Tup o) (k : ∀ b o, b ∉ wr → h.get? b = some o → h'.get? b = some o) : Inert (Zs ++ Hz) h h' := by
  intro b o e hd hz
  by_cases hw : b ∈ wr
  · by_cases hb : b ∈ Zs
    · obtain ⟨o', e', t⟩ := ht b hb
      rw [e] at e'; (have e := si e'; subst e; clear e'); exact absurd t (hz (List.mem_append_left _ hb))
    · obtain ⟨o', fs, T, e', d, c⟩ := hin b hw hb
      rw [e] at e'; (have e := si e'; subst e; clear e'); exact absurd c (hd fs d T)
  · exact k b o hw e
end
section
variable {s₀ s : Shared} {X : List Addr} {env : Env} {C : List Addr} {ρ : Rho} {O : List (String × List Addr)}
theorem RepVV.hide {Hy : List Addr} {s₀ h : Heap} {W : List Addr} {x : String} {u : Value} {v : VV} (r : RepVV prog w Hz s₀ W O h x u v) (k : ∀ a o, h.get? a = some o → a ∉ Hz → a ∉ Hy) : RepVV prog w Hy s₀ W O h x u v := by
  cases v with
  | val v => obtain ⟨q, as, r, c, f⟩ := r; exact ⟨q, as, (hide_both k).1 r, c, f⟩
  | own o =>
    obtain ⟨sp, hsp, r⟩ := r
    refine ⟨sp, hsp, ?_⟩
    clear hsp
    induction r with
    | lst a b c d => exact .lst a ((hide_both k).2 b) c d
    | dct a g e b c d => exact .dct a g e ((hide_both k).2 b) c d
    | tree a b c e f => exact .tree ((hide_both k).1 a) b c e f
theorem InF.iterTo {Zs Hy : List Addr} (I : InF prog w (Zs ++ Hz) hb s₀ X env C ρ O s) {wr : List Addr} {h' : Heap} {tk : Nat} (hin : ∀ b ∈ wr, b ∉ Zs → ∃ o fs T, s.heap.get? b = some o ∧ o.data = .fields fs ∧ o.cls = .type T) (hfr : ∀ b ∈ wr, hb.get? b = none ∧ s₀.heap.get? b = none ∧ b ∉ WW env C O)
    (k : ∀ b o, b ∉ wr → s.heap.get? b = some o → h'.get? b = some o) (hy : ∀ z ∈ Hy, z ∈ Zs ++ Hz) (hyw : ∀ z ∈ Hy, z ∈ wr → ∃ o, h'.get? z = some o ∧ Tup o) : InF prog w Hy hb s₀ X env C ρ O { s with heap := h', toks := tk } := by
  have K : Inert (Zs ++ Hz) s.heap h' := Inert.of hin (fun z hz => (I.base.hide z (List.mem_append_left _ hz)).2) k
  have D : ∀ a o, h'.get? a = some o → a ∉ Zs ++ Hz → a ∉ Hy := fun a _ _ q z => q (hy a z)
  obtain ⟨h0, t0, e0⟩ := I.same
  refine ⟨⟨h', tk, by rw [e0]⟩, ⟨fun z hz => ?_, I.base.lim, I.base.seer, I.base.tree, I.base.mods, fun b o e => k b o (fun hw => ?_) (I.base.grow b o e)⟩, fun b o e hx => k b o (fun hw => ?_) (I.keep b o e hx), fun b o e => ?_, fun a ha => ?_, I.wfresh, I.wnodup, I.kind, I.glob, I.bult, I.clk, ?_, fun x vv e1 e2 => ?_⟩
  · obtain ⟨q, o, e, t⟩ := I.base.hide z (hy z hz)
    refine ⟨q, ?_⟩
    by_cases hw : z ∈ wr
    · exact hyw z hz hw
    · exact ⟨o, k z o hw e, t⟩
  · rw [(hfr b hw).1] at e; exact no e
  · rw [(hfr b hw).2.1] at e; cases e
  · obtain ⟨o', e'⟩ := I.alive b o e
    exact ⟨o', k b o' (fun hw => by rw [(hfr b hw).2.1] at e; cases e) e'⟩
  · obtain ⟨o, e, c⟩ := I.walive a ha
    exact ⟨o, k a o (fun hw => (hfr a hw).2.2 ha) e, c⟩
  · obtain ⟨m, hm, hv⟩ := I.ns
    refine ⟨m, ?_, fun x vv e1 e2 => ?_⟩
    · obtain ⟨o, es, ep, ho, hd, r⟩ := hm
      exact ⟨o, es, ep, K _ _ ho (fun _ z => by rw [hd] at z; cases z) (fun _ => by rintro ⟨vs, n, rfl⟩; cases hd), hd, r⟩
    · obtain ⟨u, a, b⟩ := hv x vv e1 e2
      exact ⟨u, a, (b.inert K).hide D⟩
  · obtain ⟨c, u, a, ⟨o, ho, hd⟩, d⟩ := I.cell x vv e1 e2
    exact ⟨c, u, a, ⟨o, K _ _ ho (fun _ z => by rw [hd] at z; cases z) (fun _ => by rintro ⟨vs, n, rfl⟩; cases hd), hd⟩, (d.inert K).hide D⟩
theorem InS.iterTo {Zs Hy : List Addr} (I : InS prog w (Zs ++ Hz) hb s₀ X env C ρ O s) {wr : List Addr} {h' : Heap} {tk : Nat} (hin : ∀ b ∈ wr, b ∉ Zs → ∃ o fs T, s.heap.get? b = some o ∧ o.data = .fields fs ∧ o.cls = .type T) (hfr : ∀ b ∈ wr, hb.get? b = none ∧ s₀.heap.get? b = none ∧ b ∉ WW env C O)
    (k : ∀ b o, b ∉ wr → s.heap.get? b = some o → h'.get? b = some o) (hy : ∀ z ∈ Hy, z ∈ Zs ++ Hz) (hyw : ∀ z ∈ Hy, z ∈ wr → ∃ o, h'.get? z = some o ∧ Tup o) : InS prog w Hy hb s₀ X env C ρ O { s with heap := h', toks := tk } := by
  refine ⟨I.toInF.iterTo hin hfr k hy hyw, I.fc, I.finj, fun z c hc => ?_⟩
  obtain ⟨q, v, o, ho, hd⟩ := I.cello z c hc
  exact ⟨q, v, o, (Inert.of (Hz := Hz) hin (fun z hz => (I.base.hide z (List.mem_append_left _ hz)).2) k) _ _ ho (fun _ z => by rw [hd] at z; cases z) (fun _ => by rintro ⟨vs, n, rfl⟩; cases hd), hd⟩
theorem InF.growZ {Zs : List Addr} {s' : Shared} (I : InF prog w Hz hb s₀ X env C ρ O s) (k : Keeps s s') (hz : ∀ z ∈ Zs, s.heap.get? z = none) (ht : ∀ z ∈ Zs, ∃ o, s'.heap.get? z = some o ∧ Tup o) : InF prog w (Zs ++ Hz) hb s₀ X env C ρ O s' := by
  have D : ∀ a o, s.heap.get? a = some o → a ∉ Hz → a ∉ Zs ++ Hz := fun a o e q z => (List.mem_append.mp z).elim (fun z => by rw [hz a z] at e; exact no e) q
  have J := I.grow k
  refine ⟨J.same, ⟨fun z q => ?_, J.base.lim, J.base.seer, J.base.tree, J.base.mods, J.base.grow⟩, J.keep, J.alive, J.walive, J.wfresh, J.wnodup, J.kind, J.glob, J.bult, J.clk, ?_, fun x vv e1 e2 => ?_⟩
  · rcases List.mem_append.mp q with q | q
    · refine ⟨?_, ht z q⟩
      cases e : hb.get? z with
      | none => rfl
      | some o => have := I.base.grow _ _ e; rw [hz z q] at this; exact no this
    · exact J.base.hide z q
  · obtain ⟨m, hm, hv⟩ := I.ns
    refine ⟨m, hm.keeps (keeps_grow k), fun x vv e1 e2 => ?_⟩
    obtain ⟨u, a, b⟩ := hv x vv e1 e2
    exact ⟨u, a, (b.hide D).grow (keeps_grow k)⟩
  · obtain ⟨c, u, a, b, d⟩ := I.cell x vv e1 e2
    exact ⟨c, u, a, isCell_grow b (keeps_grow k), (d.hide D).grow (keeps_grow k)⟩
theorem InS.growZ {Zs : List Addr} {s' : Shared} (I : InS prog w Hz hb s₀ X env C ρ O s) (k : Keeps s s') (hz : ∀ z ∈ Zs, s.heap.get? z = none) (ht : ∀ z ∈ Zs, ∃ o, s'.heap.get? z = some o ∧ Tup o) : InS prog w (Zs ++ Hz) hb s₀ X env C ρ O s' :=
  ⟨I.toInF.growZ k hz ht, I.fc, I.finj, fun x c hc => let ⟨q, v, h⟩ := I.cello x c hc; ⟨q, v, isCell_grow h (keeps_grow k)⟩⟩
theorem InF.dropZ {Zs : List Addr} (J : InF prog w (Zs ++ Hz) hb s₀ X env C ρ O s) : InF prog w Hz hb s₀ X env C ρ O s := by
  have D : ∀ a o, s.heap.get? a = some o → a ∉ Zs ++ Hz → a ∉ Hz := fun a _ _ q z => q (List.mem_append_right _ z)
  refine ⟨J.same, ⟨fun z q => J.base.hide z (List.mem_append_right _ q), J.base.lim, J.base.seer, J.base.tree, J.base.mods, J.base.grow⟩, J.keep, J.alive, J.walive, J.wfresh, J.wnodup, J.kind, J.glob, J.bult, J.clk, ?_, fun x vv e1 e2 => ?_⟩
  · obtain ⟨m, hm, hv⟩ := J.ns
    refine ⟨m, hm, fun x vv e1 e2 => ?_⟩
    obtain ⟨u, a, b⟩ := hv x vv e1 e2
    exact ⟨u, a, b.hide D⟩
  · obtain ⟨c, u, a, b, d⟩ := J.cell x vv e1 e2
    exact ⟨c, u, a, b, d.hide D⟩
theorem InS.dropZ {Zs : List Addr} (J : InS prog w (Zs ++ Hz) hb s₀ X env C ρ O s) : InS prog w Hz hb s₀ X env C ρ O s := ⟨J.toInF.dropZ, J.fc, J.finj, J.cello⟩
theorem Ends.hide {Zs : List Addr} {r : Out} {Q : Flow → Shared → Prop} (h : Ends prog w Hz hb s₀ X env C O s r Q) : Ends prog w (Zs ++ Hz) hb s₀ X env C O s r Q := by
  induction r with
  | next ρ => exact fun O'' s'' I t => h O'' s'' I.dropZ t
  | brk ρ => exact fun O'' s'' I t => h O'' s'' I.dropZ t
  | cont ρ => exact fun O'' s'' I t => h O'' s'' I.dropZ t
  | ret x => exact fun u as O' ρ s' I r c f => h u as O' ρ s' I.dropZ ((hide_both fun a _ _ q z => q (List.mem_append_right _ z)).1 r) c f
  | retT x ρ => exact fun u O' s' I r c => h u O' s' I.dropZ ((hide_both fun a _ _ q z => q (List.mem_append_right _ z)).1 r) c
end

structure Stream (prog : Program) (w : World) (Hz : List Addr) (A : Around) (tgt : Expr) (I : Addr) (F wr Zs : List Addr) (xs : List PyData) (S : Nat → Heap → Prop) : Prop where
  frame : ∀ i h h' W, S i h → Off W h h' → (∀ a ∈ F, a ∉ W) → (∀ b ∈ wr, b ∉ W) → S i h'
  inert : ∀ i h, S i h → ∀ b ∈ wr, b ∉ Zs → ∃ o fs T, h.get? b = some o ∧ o.data = .fields fs ∧ o.cls = .type T
  tups : ∀ i h, S i h → ∀ z ∈ Zs, ∃ o, h.get? z = some o ∧ Tup o
  sub : ∀ z ∈ Zs, z ∈ wr
  alive : ∀ i h, S i h → ∀ a ∈ F, ∃ o, h.get? a = some o
  turn : ∀ i x (s : Shared) (Q : Value → Shared → Prop) (E : Value → Shared → Prop), xs[i]? = some x → S i s.heap → (∀ z ∈ Hz, ∃ o, s.heap.get? z = some o) →
    (∀ v as h' tk, RD prog w (Zs ++ Hz) h' v x as → (∀ a ∈ as, a ∈ F) → S (i + 1) h' → (∀ b o, b ∉ wr → s.heap.get? b = some o → h'.get? b = some o) → Q v { s with heap := h', toks := tk }) →
    wpAny (model prog w) A (pyNext (.ref I)) (fun r s₁ => match r with | none => False | some v => wpAny (model prog w) A (letOwnedTupleGo tgt (.ref I) v) (fun _ s₂ => Q v s₂) E s₁) E s
  done : ∀ (s : Shared) (Q : Option Value → Shared → Prop) (E : Value → Shared → Prop), S xs.length s.heap →
    (∀ h' tk, (∀ b o, b ∉ wr → s.heap.get? b = some o → h'.get? b = some o) → Q none { s with heap := h', toks := tk }) → wpAny (model prog w) A (pyNext (.ref I)) Q E s
  self : ∀ i (s : Shared) (Q : Value → Shared → Prop) (E : Value → Shared → Prop), S i s.heap → Q (.ref I) s → wpAny (model prog w) A (pyIter (.ref I)) Q E s
theorem Stream.there {A : Around} {tgt : Expr} {I : Addr} {F wr Zs : List Addr} {xs : List PyData} {S : Nat → Heap → Prop} (T : Stream prog w Hz A tgt I F wr Zs xs S) {i : Nat} {h : Heap} (st : S i h) {b : Addr} (hb' : b ∈ wr) : ∃ o, h.get? b = some o := by
  by_cases hz : b ∈ Zs
  · obtain ⟨o, e, _⟩ := T.tups i h st b hz; exact ⟨o, e⟩
  · obtain ⟨o, _, _, e, _⟩ := T.inert i h st b hb' hz; exact ⟨o, e⟩

noncomputable def It (prog : Program) (w : World) (hb : Heap) (n : Nat) (sc : Scope) (tgt : Expr) (e : Expr) (m : Rho → Option (List PyData × Fl)) : Prop :=
  (∀ (env : Env) x, foldedSetIterable e env x = pure x) ∧
  ∀ ⦃A : Around⦄ ⦃Hz : List Addr⦄ ⦃env : Env⦄ ⦃s₀ : Shared⦄ ⦃X C : List Addr⦄ ⦃ρ : Rho⦄ ⦃O : List (String × List Addr)⦄ ⦃s : Shared⦄ ⦃v : List PyData × Fl⦄ ⦃Q : Value → Shared → Prop⦄ ⦃E : Value → Shared → Prop⦄,
    env.scope = sc → RoomF A n → InF prog w Hz hb s₀ X env C ρ O s → m ρ = some v →
    (∀ I F wr Zs S s', Keeps s s' → Stream prog w Hz A tgt I F wr Zs v.1 S → S 0 s'.heap → FlOk s₀.heap (WW env C O) v.2 F → wfs v.1 = true → v.1.length ≤ sizeLine → (∀ b ∈ wr, s.heap.get? b = none) → Q (.ref I) s') →
    wpAny (model prog w) A (eval e env) (fun x s₁ => wpAny (model prog w) A (pyIter x) Q E s₁) E s
noncomputable def Tg (prog : Program) (w : World) (hb : Heap) (sc : Scope) (tgt : Expr) (m : V → Rho → Option Rho) : Prop :=
  ∀ ⦃A : Around⦄ ⦃Hz : List Addr⦄ ⦃env : Env⦄ ⦃s₀ : Shared⦄ ⦃X C : List Addr⦄ ⦃ρ ρ' : Rho⦄ ⦃O : List (String × List Addr)⦄ ⦃s : Shared⦄ ⦃u : Value⦄ ⦃v : V⦄ ⦃Q : Unit → Shared → Prop⦄ ⦃E : Value → Shared → Prop⦄,
    env.scope = sc → A.handled = none → InS prog w Hz hb s₀ X env C ρ O s → Rep prog w Hz s₀.heap (WW env C O) s.heap u v → m v ρ = some ρ' →
    (∀ s', InS prog w Hz hb s₀ X env C ρ' O s' → Step s.heap s'.heap (WW env C O) (WW env C O) → Q () s') → wpAny (model prog w) A (assign tgt env u) Q E s
noncomputable def forD (bind : V → Rho → Option Rho) (body : Rho → Option Out) (f : Fl) : List PyData → Rho → Option Out
  | [], ρ => some (.next ρ)
  | x :: xs, ρ => (bind (V.fix x f) ρ).bind fun ρ₁ => (body ρ₁).bind fun o => match o with
    | .next ρ₂ => forD bind body f xs ρ₂
    | .cont ρ₂ => forD bind body f xs ρ₂
    | .brk ρ₂ => some (.next ρ₂)
    | .ret y => some (.ret y)
    | .retT y ρ => some (.retT y ρ)
theorem Step.off {h h' : Heap} {W W' : List Addr} (k : Step h h' W W') (ht : ∀ a ∈ W, ∃ o, h.get? a = some o ∧ ¬ Tup o) : Off W h h' := by
  intro b o e hc
  refine k.keep b o e fun hw => ?_
  rcases hc with hc | hc
  · exact hc hw
  · obtain ⟨o', e', q⟩ := ht b hw
    rw [e] at e'; (have e := si e'; subst e; clear e'); exact q hc
set_option maxHeartbeats 1000000 in
theorem turn_lt {i n : Nat} (h : i < n) : n + 1 - (i + 1) < n + 1 - i := by lia
variable (prog w) in
inductive ForI (Hz : List Addr) (hb : Heap) (s₀ : Shared) (X : List Addr) (env : Env) (C W wr : List Addr) (h₁ : Heap) (S : Nat → Heap → Prop) (bind : V → Rho → Option Rho) (mb : Rho → Option Out) (f : Fl) (xs : List PyData) (r : Out) : Nat → Shared → Prop
  | mk (i : Nat) (ρ₂ : Rho) (O₂ : List (String × List Addr)) (s₂ : Shared) (h1 : i ≤ xs.length) (h2 : InS prog w Hz hb s₀ X env C ρ₂ O₂ s₂) (h3 : ∀ b o, h₁.get? b = some o → b ∉ W → b ∉ wr → s₂.heap.get? b = some o) (h4 : ∀ a ∈ WW env C O₂, a ∈ W ∨ h₁.get? a = none) (h5 : S i s₂.heap) (h6 : forD bind mb f (xs.drop i) ρ₂ = some r) : ForI Hz hb s₀ X env C W wr h₁ S bind mb f xs r (xs.length + 1 - i) s₂
theorem S1.for {tgt e : Expr} {body : List Stmt} {pos : Pos} {m : Rho → Option (List PyData × Fl)} {bind : V → Rho → Option Rho} {mb : Rho → Option Out} (hi : It prog w hb n sc tgt e m) (ht : Tg prog w hb sc tgt bind) (hbd : St prog w hb n sc body mb) :
    S1 prog w hb n sc (.For tgt e body [] pos) (fun ρ => (m ρ).bind fun v => if v.2 = .t then none else forD bind mb v.2 v.1 ρ) := by
  intro A Hz env s₀ X C ρ O s r Q E hs hA I
  refine bindI fun z0 hv hm hQ => ?_
  obtain ⟨xs, f⟩ := z0
  dsimp only at hm
  split at hm
  · exact no hm
  rename_i hf
  refine wpAny_For (hi.2 hs hA I.toInF hv fun J F wr Zs S s₁ k₁ T hS hF hwf hlen hwr => ?_) (hi.1 env)
  have I₁ := I.growZ k₁ (fun z hz => hwr z (T.sub z hz)) (T.tups 0 _ hS)
  have hFW : ∀ a ∈ F, a ∉ WW env C O := by
    induction f with
    | d => exact fun a ha => (hF a ha).2
    | s => exact hF
    | t => exact absurd rfl hf
  have wrOk : ∀ b ∈ wr, hb.get? b = none ∧ s₀.heap.get? b = none ∧ b ∉ WW env C O := by
    intro b hb'
    have h0 := hwr b hb'
    obtain ⟨f1, f2⟩ := I.toInF.fresh h0
    refine ⟨?_, f1, f2⟩
    cases e : hb.get? b with
    | none => rfl
    | some o => rw [I.base.grow _ _ e] at h0; cases h0
  have notHz : ∀ b ∈ wr, b ∉ Hz := fun b hb' hz => by
    obtain ⟨_, o, e, _⟩ := I.base.hide b hz
    rw [hwr b hb'] at e; exact no e
  have step : ∀ {O₂ : List (String × List Addr)} {h₂ : Heap}, (∀ b o, s₁.heap.get? b = some o → b ∉ WW env C O → b ∉ wr → h₂.get? b = some o) → (∀ a ∈ WW env C O₂, a ∈ WW env C O ∨ s₁.heap.get? a = none) → Step s.heap h₂ (WW env C O) (WW env C O₂) := by
    intro O₂ h₂ K N
    refine ⟨fun b o e hw => K b o (keeps_grow k₁ _ _ e) hw fun hq => ?_, fun a ha => (N a ha).imp id fun q => ?_⟩
    · rw [hwr b hq] at e; exact no e
    · cases e : s.heap.get? a with
      | none => rfl
      | some o => rw [keeps_grow k₁ _ _ e] at q; cases q
  refine codeAny_forLoop_any (ForI prog w (Zs ++ Hz) hb s₀ X env C (WW env C O) wr s₁.heap S bind mb f xs r) ?_ (xs.length + 1) (ForI.mk 0 ρ O s₁ (Nat.zero_le _) I₁ (fun _ _ e _ _ => e) (fun _ h => .inl h) hS hm)
  rintro k s₂ ⟨i, ρ₂, O₂, _, hil, I₂, K₂, N₂, hS₂, hm₂⟩
  have wr₂ : ∀ b ∈ wr, b ∉ WW env C O₂ := by
    intro b hb' hq
    rcases N₂ b hq with q | q
    · exact (wrOk b hb').2.2 q
    · obtain ⟨o, e⟩ := T.there hS hb'; rw [e] at q; cases q
  have F₂ : ∀ a ∈ F, a ∉ WW env C O₂ := by
    intro a ha hq
    rcases N₂ a hq with q | q
    · exact hFW a ha q
    · obtain ⟨o, e⟩ := T.alive 0 _ hS a ha; rw [e] at q; cases q
  have out₂ : ∀ b o, s₁.heap.get? b = some o → b ∉ WW env C O → b ∉ WW env C O₂ := fun b o e hw hq => (N₂ b hq).elim hw fun q => by rw [e] at q; cases q
  by_cases hlt : i < xs.length
  · have hx : xs[i]? = some xs[i] := List.getElem?_eq_getElem hlt
    rw [List.drop_eq_getElem_cons hlt] at hm₂
    simp only [forD] at hm₂
    obtain ⟨ρ₃, hb₃, hm₃⟩ := bindE hm₂
    obtain ⟨o, ho, hm₄⟩ := bindE hm₃
    refine wpAny_mono (T.turn i _ s₂ (fun v s₃ => wpAny (model prog w) A (PySem.assign tgt env v) (fun _ s₄ => wpAny (model prog w) A (execs body env) (fun fl s₅ => match fl with
            | .next | .cont => ∃ m, m < xs.length + 1 - i ∧ ForI prog w (Zs ++ Hz) hb s₀ X env C (WW env C O) wr s₁.heap S bind mb f xs r m s₅
            | .brk => Q .next s₅
            | .ret v => Q (.ret v) s₅) (notedBy (model prog w) A env fun e s' => cameBackBy (model prog w) A env E e s') s₄) (notedBy (model prog w) A env fun e s' => cameBackBy (model prog w) A env E e s') s₃) (notedBy (model prog w) A env fun e s' => cameBackBy (model prog w) A env E e s') hx hS₂ (fun z hz => let ⟨_, o, e, _⟩ := I₂.base.hide z (List.mem_append_right _ hz); ⟨o, e⟩) fun v as h' tk rd has hS₃ kp => ?_) (fun rr s₃ h₃ => ?_) fun _ _ e => e
    · have I₃ := I₂.iterTo (Hy := Zs ++ Hz) (tk := tk) (T.inert i _ hS₂) (fun b hb' => ⟨(wrOk b hb').1, (wrOk b hb').2.1, wr₂ b hb'⟩) kp (fun _ q => q) (fun z hz hw => (List.mem_append.mp hz).elim (T.tups _ _ hS₃ z) fun q => absurd q (notHz z hw))
      have rep : Rep prog w (Zs ++ Hz) s₀.heap (WW env C O₂) h' v (V.fix xs[i] f) := by
        refine Rep.fixed rd ((wfs_iff _).mp hwf _ (List.getElem_mem _)) ?_
        induction f with
        | d => exact fun a ha => ⟨(hF a (has a ha)).1, F₂ a (has a ha)⟩
        | s => exact fun a ha => F₂ a (has a ha)
        | t => trivial
      refine ht hs hA.handled I₃ rep hb₃ fun s₄ I₄ T₄ => ?_
      have K₄ : S (i + 1) s₄.heap := T.frame _ _ _ (WW env C O₂) hS₃ (T₄.off I₃.walive) F₂ wr₂
      have keep₄ : ∀ b o, s₁.heap.get? b = some o → b ∉ WW env C O → b ∉ wr → s₄.heap.get? b = some o := fun b o e hw hq => T₄.keep b o (kp b o hq (K₂ b o e hw hq)) (out₂ b o e hw)
      have fin : ∀ {O₅ : List (String × List Addr)} {s₅ : Shared}, Step s₄.heap s₅.heap (WW env C O₂) (WW env C O₅) → (∀ b o, s₁.heap.get? b = some o → b ∉ WW env C O → b ∉ wr → s₅.heap.get? b = some o) ∧ (∀ a ∈ WW env C O₅, a ∈ WW env C O ∨ s₁.heap.get? a = none) := by
        intro O₅ s₅ T₅
        refine ⟨fun b o e hw hq => T₅.keep b o (keep₄ b o e hw hq) (out₂ b o e hw), fun a ha => ?_⟩
        rcases T₅.new a ha with q | q
        · exact N₂ a q
        · by_cases hw : a ∈ WW env C O
          · exact .inl hw
          · refine .inr ?_
            cases e : s₁.heap.get? a with
            | none => rfl
            | some o =>
              by_cases hq : a ∈ wr
              · obtain ⟨o', e'⟩ := T.there K₄ hq; rw [e'] at q; cases q
              · rw [keep₄ a o e hw hq] at q; cases q
      refine hbd hs hA I₄ ho ?_
      induction o with
      | next ρ₅ =>
        intro O₅ s₅ I₅ T₅
        obtain ⟨f1, f2⟩ := fin T₅
        exact ⟨_, turn_lt hlt, .mk (i + 1) ρ₅ O₅ s₅ hlt I₅ f1 f2 (T.frame _ _ _ (WW env C O₂) K₄ (T₅.off I₄.walive) F₂ wr₂) hm₄⟩
      | cont ρ₅ =>
        intro O₅ s₅ I₅ T₅
        obtain ⟨f1, f2⟩ := fin T₅
        exact ⟨_, turn_lt hlt, .mk (i + 1) ρ₅ O₅ s₅ hlt I₅ f1 f2 (T.frame _ _ _ (WW env C O₂) K₄ (T₅.off I₄.walive) F₂ wr₂) hm₄⟩
      | brk ρ₅ =>
        (have e := si hm₄; subst e; clear hm₄)
        intro O₅ s₅ I₅ T₅
        obtain ⟨f1, f2⟩ := fin T₅
        exact hQ O₅ s₅ I₅.dropZ (step f1 f2)
      | ret y =>
        (have e := si hm₄; subst e; clear hm₄)
        exact Ends.hide (r := .ret y) hQ
      | retT y ρ =>
        (have e := si hm₄; subst e; clear hm₄)
        exact Ends.hide (r := .retT y ρ) hQ
    · induction rr with
      | none => exact h₃.elim
      | some v => exact h₃
  · have hi' : i = xs.length := by lia
    subst hi'
    simp only [List.drop_length, forD] at hm₂
    (have e := si hm₂; subst e; clear hm₂)
    refine T.done s₂ _ _ hS₂ fun h' tk kp => wpAny_execs_nil ?_
    have I₃ := I₂.iterTo (Hy := Hz) (tk := tk) (T.inert _ _ hS₂) (fun b hb' => ⟨(wrOk b hb').1, (wrOk b hb').2.1, wr₂ b hb'⟩) kp (fun _ q => List.mem_append_right _ q) (fun z hz hw => absurd hz (notHz z hw))
    exact hQ O₂ _ I₃ (step (fun b o e hw hq => kp b o hq (K₂ b o e hw hq)) N₂)

theorem letGo_plain {A : Around} {E : Value → Shared → Prop} {s : Shared} {tgt : Expr} {I : Addr} {v : Value} {o : Obj} {T : String} {Q : Unit → Shared → Prop} (ho : s.heap.get? I = some o) (hc : o.cls = .type T)
    (hT : ["enumerate", "zip", "dict_itemiterator", "dict_reverseitemiterator", "odict_iterator", "itertools.zip_longest", "itertools.pairwise"].contains T = false) (h : Q () s) :
    wpAny (model prog w) A (letOwnedTupleGo tgt (.ref I) v) Q E s := by
  have fin : wpAny (model prog w) A (match o.cls, o.data with
      | .type n, .fields vs => (do
        let (.ref a) := v | return ()
        if ["enumerate", "zip", "dict_itemiterator", "dict_reverseitemiterator", "odict_iterator", "itertools.zip_longest", "itertools.pairwise"].contains n && vs[0]? == some (rawInt a) then
          rule "for.unpacks-the-owned-tuple"
          updateField I 0 .none : Sem Unit)
      | _, _ => pure ()) Q E s := by
    obtain ⟨oc, od, dt, sl⟩ := o
    dsimp only at hc ⊢
    subst hc
    induction dt with
    | fields vs =>
      induction v with
      | ref a =>
        show wpAny (model prog w) A (if (["enumerate", "zip", "dict_itemiterator", "dict_reverseitemiterator", "odict_iterator", "itertools.zip_longest", "itertools.pairwise"].contains T && vs[0]? == some (rawInt a)) = true then _ else _) Q E s
        rw [hT, Bool.false_and, if_neg Bool.false_ne_true]
        exact wpAny_pure h
      | _ => exact wpAny_pure h
    | _ => exact wpAny_pure h
  cases tgt with
  | Tuple => induction v with
    | ref a => exact wpAny_bind (wpAny_load ho fin)
    | _ => exact wpAny_pure h
  | List => induction v with
    | ref a => exact wpAny_bind (wpAny_load ho fin)
    | _ => exact wpAny_pure h
  | _ => exact wpAny_pure h
theorem Stream.list {A : Around} (hh : A.handled = none) (tgt : Expr) (I a : Addr) (xs : List PyData) (F : List Addr) :
    Stream prog w Hz A tgt I (a :: F) [I] [] xs (fun i h => h.IsListIter I a i ∧ RD prog w Hz h (.ref a) (.list xs) (a :: F)) where
  frame := fun i h h' W st off hF hw => ⟨by
      obtain ⟨o, ho, r⟩ := st.1
      exact ⟨o, off _ _ ho (.inl (hw I (.head _))), r⟩, st.2.off off hF⟩
  tups := fun _ _ _ _ q => nomatch q
  sub := fun _ q => nomatch q
  inert := fun i h st b hb' _ => by
    rw [List.mem_singleton.mp hb']
    obtain ⟨o, ho, hc, hd⟩ := st.1
    exact ⟨o, _, _, ho, hd, hc⟩
  alive := fun i h st => st.2.alive
  turn := fun i x s Q E hx st _ hQ => by
    obtain ⟨hit, rl⟩ := st
    obtain ⟨_, _, _, _, q1, q2, a1, a2⟩ := rl.list_inv
    cases q1; cases q2
    · skip
      obtain ⟨v, cs, e1, e2, e3⟩ := a2.get hx
      refine wpAny_pyNext_list_item hit ⟨_, a1, rfl, _, rfl⟩ (by simpa using e1) fun h' hit' hs' => ?_
      have K : Inert Hz s.heap h' := by
        intro b o e hd _
        refine (hs'.2 b fun q => ?_).trans e
        obtain ⟨o', ho', hc', hd'⟩ := hit
        rw [q, ho'] at e; cases e
        exact hd _ hd' _ hc'
      obtain ⟨o', ho', hc', hd'⟩ := hit'
      refine letGo_plain ho' hc' (by decide) (hQ v cs h' s.toks (e2.inert K) (fun b hb' => .tail _ (e3 b hb')) ⟨⟨o', ho', hc', hd'⟩, (RD.list a1 a2).inert K⟩ fun b o hb' e => (hs'.2 b (by simpa using hb')).trans e)
  done := fun s Q E st hQ => by
    obtain ⟨hit, rl⟩ := st
    obtain ⟨_, _, _, _, q1, q2, a1, a2⟩ := rl.list_inv
    cases q1; cases q2
    · skip
      refine wpAny_pyNext_list_end hh hit ⟨_, a1, rfl, _, rfl⟩ (by simp [a2.length]) fun h' he' => hQ h' s.toks fun b o hb' e => he' b o (by simpa using hb') e
  self := fun i s Q E st hQ => wpAny_pyIter_listiter st.1 hQ
theorem Stream.tuple {A : Around} (hh : A.handled = none) (tgt : Expr) (I a : Addr) (xs : List PyData) (F : List Addr) :
    Stream prog w Hz A tgt I F [I] [] xs (fun i h => h.IsTupleIter I a i ∧ RD prog w Hz h (.ref a) (.tuple xs) F) where
  frame := fun i h h' W st off hF hw => ⟨by
      obtain ⟨o, ho, r⟩ := st.1
      exact ⟨o, off _ _ ho (.inl (hw I (.head _))), r⟩, st.2.off off hF⟩
  tups := fun _ _ _ _ q => nomatch q
  sub := fun _ q => nomatch q
  inert := fun i h st b hb' _ => by
    rw [List.mem_singleton.mp hb']
    obtain ⟨o, ho, hc, hd⟩ := st.1
    exact ⟨o, _, _, ho, hd, hc⟩
  alive := fun i h st => st.2.alive
  turn := fun i x s Q E hx st _ hQ => by
    obtain ⟨hit, rl⟩ := st
    cases rl with
    | tuple a1 az a2 =>
      obtain ⟨v, cs, e1, e2, e3⟩ := a2.get hx
      refine wpAny_pyNext_tuple_item hit ⟨_, a1, rfl, _, rfl⟩ (by simpa using e1) fun h' hit' hs' => ?_
      have K : Inert Hz s.heap h' := by
        intro b o e hd _
        refine (hs'.2 b fun q => ?_).trans e
        obtain ⟨o', ho', hc', hd'⟩ := hit
        rw [q, ho'] at e; (have e := si e; subst e; clear e)
        exact hd _ hd' _ hc'
      obtain ⟨o', ho', hc', hd'⟩ := hit'
      refine letGo_plain ho' hc' (by decide) (hQ v cs h' s.toks (e2.inert K) e3 ⟨⟨o', ho', hc', hd'⟩, (RD.tuple a1 az a2).inert K⟩ fun b o hb' e => (hs'.2 b (by simpa using hb')).trans e)
  done := fun s Q E st hQ => by
    obtain ⟨hit, rl⟩ := st
    cases rl with
    | tuple a1 az a2 =>
      refine wpAny_pyNext_tuple_end hh hit ⟨_, a1, rfl, _, rfl⟩ (by simp [a2.length]) fun h' he' => hQ h' s.toks fun b o hb' e => he' b o (by simpa using hb') e
  self := fun i s Q E st hQ => wpAny_pyIter_tupleiter st.1 hQ
theorem Stream.ofWalks {A : Around} {tgt : Expr} {I : Addr} {k : Nat} {P : Nat → Value → Prop} {S : Nat → Heap → Prop} {xs : List PyData} (W : Walks prog w A I [I] [I] k P S) (hlen : xs.length = k)
    (hP : ∀ i v x h, P i v → xs[i]? = some x → RD prog w Hz h v x []) (hin : ∀ i h, S i h → ∃ o fs T, h.get? I = some o ∧ o.data = .fields fs ∧ o.cls = .type T ∧ ["enumerate", "zip", "dict_itemiterator", "dict_reverseitemiterator", "odict_iterator", "itertools.zip_longest", "itertools.pairwise"].contains T = false) :
    Stream prog w Hz A tgt I [] [I] [] xs S where
  frame := fun i h h' V st off _ hw => W.frame i h h' st fun b hb' o e => off b o e (.inl (hw b hb'))
  tups := fun _ _ _ _ q => nomatch q
  sub := fun _ q => nomatch q
  inert := fun i h st b hb' _ => by
    rw [List.mem_singleton.mp hb']
    obtain ⟨o, fs, T, e, d, c, _⟩ := hin i h st
    exact ⟨o, fs, T, e, d, c⟩
  alive := fun _ _ _ _ h => nomatch h
  turn := fun i x s Q E hx st _ hQ => by
    have hi : i < k := by rw [← hlen]; exact (List.getElem?_eq_some_iff.mp hx).1
    refine W.item i s _ _ hi st fun v h' tk hv st' kp => ?_
    obtain ⟨o, fs, T, e, d, c, hT⟩ := hin _ _ st'
    exact letGo_plain e c hT (hQ v [] h' tk (hP i v x h' hv hx) (fun _ h => nomatch h) st' kp)
  done := fun s Q E st hQ => W.done s Q E (by rw [← hlen]; exact st) hQ
  self := fun i s Q E st hQ => W.self i s Q E st hQ
noncomputable def signs (x : Str) : List PyData := x.cps.toList.map fun c => .str ⟨#[c]⟩
noncomputable def itemsOf (v : V) : Option (List PyData × Fl) := match v.x with
  | .list xs => some (xs, v.fl)
  | .tuple xs => some (xs, v.fl)
  | .str x => some (signs x, .d)
  | _ => none
theorem wfs_signs {x : Str} (h : wf (.str x) = true) : wfs (signs x) = true := by
  rw [wfs_iff]
  intro y hy
  obtain ⟨c, hc, rfl⟩ := List.mem_map.mp hy
  rw [wf_str] at h ⊢
  refine ⟨?_, by show 1 ≤ sizeLine; decide⟩
  have := h.1
  unfold PyData.strOk at this ⊢
  have := Array.all_eq_true'.mp this c (by simpa using hc)
  simpa using this
theorem It.data {tgt e : Expr} {m : Rho → Option V} (h : Ev prog w hb n sc e m) (hf : ∀ (env : Env) x, foldedSetIterable e env x = pure x) : It prog w hb n sc tgt e (fun ρ => (m ρ).bind itemsOf) := by
  refine ⟨hf, ?_⟩
  intro A Hz env s₀ X C ρ O s v Q E hs hA I
  refine bindI fun z0 ha hm hQ => ?_
  obtain ⟨ax, af⟩ := z0
  refine h hs hA I ha fun u s₁ k₁ r₁ => ?_
  obtain ⟨as, ra, ca, oa⟩ := r₁
  have fresh : s.heap.get? s₁.heap.objs.size = none := by
    cases e : s.heap.get? s₁.heap.objs.size with
    | none => rfl
    | some o => exact absurd (Heap.lt_size (keeps_grow k₁ _ _ e)) (Nat.lt_irrefl _)
  unfold itemsOf at hm
  dsimp only at *
  split at hm
  · (have e := si hm; subst e; clear hm)
    obtain ⟨ad, vs, k, bs, q1, q2, a1, a2⟩ := ra.list_inv
    cases q1; cases q2
    · skip
      rw [wf_list] at ca
      refine wpAny_pyIter_list ⟨_, a1, rfl, _, rfl⟩ ?_
      refine hQ _ _ _ [] _ _ (keeps_trans k₁ (keeps_push _ _)) (Stream.list hA.handled tgt _ ad _ bs) ⟨⟨_, Heap.get?_push_size _ rfl, rfl, rfl⟩, (RD.list a1 a2).grow (Grow.push _ _)⟩ oa ca.2 ca.1 fun b hb' => ?_
      rw [List.mem_singleton.mp hb']; exact fresh
  · (have e := si hm; subst e; clear hm)
    cases ra with
    | tuple a1 az a2 =>
      rename_i ad vs k
      rw [wf_tuple] at ca
      refine wpAny_pyIter_tuple ⟨_, a1, rfl, _, rfl⟩ ?_
      refine hQ _ _ _ [] _ _ (keeps_trans k₁ (keeps_push _ _)) (Stream.tuple hA.handled tgt _ ad _ as) ⟨⟨_, Heap.get?_push_size _ rfl, rfl, rfl⟩, (RD.tuple a1 az a2).grow (Grow.push _ _)⟩ oa ca.2 ca.1 fun b hb' => ?_
      rw [List.mem_singleton.mp hb']; exact fresh
  · (have e := si hm; subst e; clear hm)
    cases ra
    rename_i x t
    have hlen : (signs x).length = x.cps.size := by simp [signs]
    have hz : (signs x).length ≤ sizeLine := by rw [hlen]; exact (wf_str.mp ca).2
    have hP : ∀ i v y h, SignAt x i v → (signs x)[i]? = some y → RD prog w Hz h v y [] := by
      intro i v y h hv hy
      obtain ⟨c, u, hc, rfl⟩ := hv
      have e : (signs x)[i]? = some (.str ⟨#[c]⟩) := by simp [signs, hc]
      rw [e] at hy; (have e := si hy; subst e; clear hy)
      exact .str _ _
    have hw : ∀ b ∈ [s₁.heap.objs.size], s.heap.get? b = none := fun b hb' => by rw [List.mem_singleton.mp hb']; exact fresh
    cases hasc : x.cps.all (· < 128)
    · refine wpAny_pyIter_wide hasc (hQ _ [] _ [] _ _ (keeps_trans k₁ (keeps_push _ _)) (Stream.ofWalks (Walks.strWide hA.handled _ x t) hlen hP fun i h st => ?_) ⟨_, Heap.get?_push_size _ rfl, rfl, rfl⟩ FlOk.nil (wfs_signs ca) hz hw)
      obtain ⟨o, ho, hc, hd⟩ := st
      exact ⟨o, _, _, ho, hd, hc, by decide⟩
    · refine wpAny_pyIter_ascii hasc (hQ _ [] _ [] _ _ (keeps_trans k₁ (keeps_push _ _)) (Stream.ofWalks (Walks.strAscii hA.handled _ x t) hlen hP fun i h st => ?_) ⟨_, Heap.get?_push_size _ rfl, rfl, rfl⟩ FlOk.nil (wfs_signs ca) hz hw)
      obtain ⟨o, ho, hc, hd⟩ := st
      exact ⟨o, _, _, ho, hd, hc, by decide⟩
  · exact no hm
noncomputable def putR (x : String) (v : V) (ρ : Rho) : Option Rho := match v.fl with
  | .t => none
  | _ => some (ρ.set x (.val v))
theorem putR_some {ρ ρ' : Rho} {x : String} {v : V} (h : putR x v ρ = some ρ') : (v.fl = .d ∨ v.fl = .s) ∧ ρ' = ρ.set x (.val v) := by
  unfold putR at h
  split at h
  · exact no h
  · rename_i hf
    (have e := si h; subst e; clear h)
    refine ⟨?_, rfl⟩
    cases e : v.fl with
    | d => exact .inl rfl
    | s => exact .inr rfl
    | t => exact absurd e hf
theorem Tg.name {x : String} {pos : Pos} (hv : isVar sc x = true) : Tg prog w hb sc (.Name (Str.ofString x) pos) (putR x) := by
  intro A Hz env s₀ X C ρ ρ' O s u v Q E hs hA I r hm hQ
  obtain ⟨hf, rfl⟩ := putR_some hm
  exact wpAny_assign_Name (I.store (v := .val v) (by rw [hs]; exact hv) ⟨hf, r⟩ fun s' I' T => hQ s' I' T)
noncomputable def putRs : List String → List V → Rho → Option Rho
  | [], [], ρ => some ρ
  | x :: xs, v :: vs, ρ => (putR x v ρ).bind (putRs xs vs)
  | _, _, _ => none
noncomputable def tupOf (v : V) : Option (List V) := match v.x with
  | .tuple xs => some (xs.map fun x => V.fix x v.fl)
  | _ => none
theorem putRs_len : ∀ {xs : List String} {vs : List V} {ρ ρ' : Rho}, putRs xs vs ρ = some ρ' → xs.length = vs.length ∧ ∀ v ∈ vs, v.fl = .d ∨ v.fl = .s
  | [], [], _, _, _ => ⟨rfl, fun _ h => nomatch h⟩
  | [], _ :: _, _, _, h => by simp [putRs] at h
  | _ :: _, [], _, _, h => by simp [putRs] at h
  | x :: xs, v :: vs, ρ, ρ', h => by
    simp only [putRs] at h
    obtain ⟨ρ₁, h1, h2⟩ := bindE h
    obtain ⟨a, b⟩ := putRs_len h2
    refine ⟨by simp [a], fun u hu => ?_⟩
    rcases List.mem_cons.mp hu with rfl | hu
    · exact (putR_some h1).1
    · exact b u hu
theorem Reps.off {s₀ h h' : Heap} {W : List Addr} (k : Off W h h') {us : List Value} {vs : List V} (r : Reps prog w Hz s₀ W h us vs) (hf : ∀ v ∈ vs, v.fl = .d ∨ v.fl = .s) : Reps prog w Hz s₀ W h' us vs := by
  induction r with
  | nil => exact .nil
  | cons a _ ih => exact .cons (a.off k (hf _ (.head _))) (ih fun v hv => hf v (.tail _ hv))
theorem assign_names {A : Around} {env : Env} {s₀ : Shared} {X C : List Addr} {O : List (String × List Addr)} {Q : Unit → Shared → Prop} {E : Value → Shared → Prop} (hs : env.scope = sc) :
    ∀ {xs : List String} {elts : List Expr} {us : List Value} {vs : List V} {ρ ρ' : Rho} {s : Shared}, (∀ x ∈ xs, isVar sc x = true) → elts.length = xs.length → InS prog w Hz hb s₀ X env C ρ O s → Reps prog w Hz s₀.heap (WW env C O) s.heap us vs → putRs xs vs ρ = some ρ' →
    (∀ s', InS prog w Hz hb s₀ X env C ρ' O s' → Step s.heap s'.heap (WW env C O) (WW env C O) → Q () s') →
    wpAny (model prog w) A (assignInOrder ((xs.zipWith (fun x e => (false, PySem.assign (.Name (Str.ofString x) e.pos) env)) elts).map (·.2)) us) Q E s
  | [], [], us, vs, ρ, ρ', s, _, _, I, r, hm, hQ => by
    induction vs with
    | nil => cases r; (have e := si hm; subst e; clear hm); exact wpAny_pure (hQ s I (Step.refl _ _))
    | cons _ _ => simp [putRs] at hm
  | [], _ :: _, _, _, _, _, _, _, h, _, _, _, _ => by simp at h
  | _ :: _, [], _, _, _, _, _, _, h, _, _, _, _ => by simp at h
  | x :: xs, e :: elts, us, vs, ρ, ρ', s, hv, hl, I, r, hm, hQ => by
    cases r with
    | nil => simp [putRs] at hm
    | cons r1 r2 =>
      rename_i u v us vs
      have hfl := (putRs_len hm).2
      simp only [putRs] at hm
      obtain ⟨ρ₁, h1, h2⟩ := bindE hm
      obtain ⟨hf, rfl⟩ := putR_some h1
      refine wpAny_bind (wpAny_holding (wpAny_assign_Name (I.store (v := .val v) (by rw [hs]; exact hv x (.head _)) ⟨hf, r1⟩ fun s₁ I₁ T₁ => ?_)))
      exact assign_names hs (fun y hy => hv y (.tail _ hy)) (by simpa using hl) I₁ (r2.off (T₁.off I.walive) fun v hv => hfl v (.tail _ hv)) h2 fun s' I' T' => hQ s' I' (T₁.trans T')
theorem Tg.tuple {xs : List String} {elts : List Expr} {k : Nat} {pos : Pos} (hv : ∀ x ∈ xs, isVar sc x = true) (hlen : elts.length = xs.length)
    (he : ∀ env : Env, assignEach elts env = xs.zipWith (fun x e => (false, PySem.assign (.Name (Str.ofString x) e.pos) env)) elts) :
    Tg prog w hb sc (.Tuple elts k pos) (fun v ρ => (tupOf v).bind fun vs => putRs xs vs ρ) := by
  intro A Hz env s₀ X C ρ ρ' O s u v Q E hs hA I r
  refine bindI fun vs hvs hm hQ => ?_
  obtain ⟨vx, vf⟩ := v
  obtain ⟨as, ra, ca, oa⟩ := r
  unfold tupOf at hvs
  dsimp only at *
  split at hvs
  · rename_i ys
    (have e := si hvs; subst e; clear hvs)
    cases ra with
    | tuple a1 az a2 =>
      rename_i us kk
      rw [wf_tuple] at ca
      have hl := a2.length
      have hrs : ∀ {us : List Value} {ys : List PyData} {as : List Addr}, RDs prog w Hz s.heap us ys as → wfs ys = true → FlOk s₀.heap (WW env C O) vf as → Reps prog w Hz s₀.heap (WW env C O) s.heap us (ys.map fun x => V.fix x vf) := by
        intro us
        induction us with
        | nil => intro ys as r _ _; cases r; exact .nil
        | cons u us ih =>
          intro ys as r c o
          cases r with
          | cons r1 r2 =>
            simp only [wfs, Bool.and_eq_true] at c
            exact .cons (Rep.fixed r1 c.1 (o.mono fun _ h => List.mem_append_left _ h)) (ih r2 c.2 (o.mono fun _ h => List.mem_append_right _ h))
      have reps := hrs a2 ca.2 oa
      clear hrs
      have hxl : xs.length = us.length := by
        rw [(putRs_len hm).1, reps.length]
      refine wpAny_assign_Tuple hA ⟨_, a1, rfl, _, rfl⟩ (by rw [he]; simp [hlen, hxl]) ?_ fun h' ext => ?_
      · rw [he, List.findIdx?_eq_none_iff]
        intro p hp
        obtain ⟨i, hi, rfl⟩ := List.mem_iff_getElem.mp hp
        simp
      have k' : Keeps s { s with heap := h' } := ⟨h', s.toks, rfl, fun b o e => ext b o (Nat.ne_of_lt (Heap.lt_size e)) e⟩
      have I' := I.grow k'
      have reps' := reps.grow (keeps_grow k')
      rw [he]
      have T₀ : Step s.heap h' (WW env C O) (WW env C O) := Step.of_grow (keeps_grow k')
      exact assign_names hs hv hlen I' reps' hm fun s' I'' T => hQ s' I'' (T₀.trans T)
  · exact no hvs

noncomputable def GName (hb : Heap) (x : String) (v : Value) : Prop :=
  (∃ mg, hb.Ns mainGlobals mg ∧ mg (Str.ofString x) = some v) ∨ (∃ mg mb, hb.Ns mainGlobals mg ∧ mg (Str.ofString x) = none ∧ hb.Ns builtinsNs mb ∧ mb (Str.ofString x) = some v)
noncomputable def isGlob (sc : Scope) (x : String) : Bool := decide (sc.names.lookup (Str.ofString x) = some .globalImplicit) && !(Str.ofString x == ("__debug__" : Str))
theorem eval_glob {A : Around} {env : Env} {s₀ : Shared} {X C : List Addr} {ρ : Rho} {O : List (String × List Addr)} {s : Shared} {E : Value → Shared → Prop} {Q : Value → Shared → Prop} {x : String} {pos : Pos} {v : Value}
    (I : InF prog w Hz hb s₀ X env C ρ O s) (hx : isGlob env.scope x = true) (hg : GName hb x v) (h : Q v s) : wpAny (model prog w) A (eval (.Name (Str.ofString x) pos) env) Q E s := by
  simp only [isGlob, Bool.and_eq_true, decide_eq_true_eq, Bool.not_eq_true'] at hx
  rcases hg with ⟨mg, hm, hv⟩ | ⟨mg, mb, hm, h0, hm', hv⟩
  · exact Name_function_global I.kind hx.1 (loadGlobal_global (by rw [I.glob]; exact hm.keeps I.base.grow) hv h) hx.2
  · exact Name_function_global I.kind hx.1 (loadGlobal_builtin (by rw [I.glob]; exact hm.keeps I.base.grow) h0 (by rw [I.bult]; exact hm'.keeps I.base.grow) hv h) hx.2
noncomputable def Calls (hb : Heap) (f : Value) : Prop := (∃ id, f = .builtin id) ∨ (∃ T, f = .type T) ∨ ∃ a o fd, f = .ref a ∧ hb.get? a = some o ∧ o.data = .func fd
theorem callWith_ok {A : Around} {env : Env} {s : Shared} {E : Value → Shared → Prop} {Q : Value → Shared → Prop} {pos : Pos} {f : Value} {es : List Expr} (hf : Calls hb f)
    (hstar : (backTo pos (starEach es env)).any (·.1) = false)
    (h : wpAny (model prog w) A (spliced (backTo pos (starEach es env))) (fun us s₁ => Grow hb s₁.heap ∧ wpAny (model prog w) A (call f us) Q E s₁) E s) :
    wpAny (model prog w) A (callWith pos f [] (backTo pos (starEach es env)) []) Q E s := by
  have args : wpAny (model prog w) A (evalArgs f true (backTo pos (starEach es env)) []) (fun a s₁ => Grow hb s₁.heap ∧ wpAny (model prog w) A (call f ([] ++ a.pos) a.kw) Q E s₁) E s := by
    generalize backTo pos (starEach es env) = l at hstar h
    induction l with
    | nil =>
      exact fun Γ p hΓ => evalArgs_none (h Γ p hΓ) Γ p hΓ
    | cons p l =>
      obtain ⟨b, t⟩ := p
      simp only [List.any_cons, Bool.or_eq_false_iff] at hstar
      obtain ⟨rfl, _⟩ := hstar
      exact evalArgs_plain h
  rcases hf with ⟨id, rfl⟩ | ⟨T, rfl⟩ | ⟨a, o, fd, rfl, ho, hd⟩
  · exact callWith_builtin hstar (wpAny_mono args (fun a s₁ h₁ => h₁.2) fun _ _ e => e)
  · exact callWith_type hstar (wpAny_mono args (fun a s₁ h₁ => h₁.2) fun _ _ e => e)
  · exact callWith_function (o := o) (fd := fd) (wpAny_mono args (fun a s₁ h₁ => ⟨⟨h₁.1 _ _ ho, hd⟩, h₁.2⟩) fun _ _ e => e)
noncomputable def CallOk (prog : Program) (w : World) (hb : Heap) (n : Nat) (f : Value) (m : List V → Option V) : Prop :=
  ∀ ⦃A : Around⦄ ⦃Hz : List Addr⦄ ⦃env : Env⦄ ⦃s₀ : Shared⦄ ⦃X C : List Addr⦄ ⦃ρ : Rho⦄ ⦃O : List (String × List Addr)⦄ ⦃s : Shared⦄ ⦃us : List Value⦄ ⦃vs : List V⦄ ⦃v : V⦄ ⦃Q : Value → Shared → Prop⦄ ⦃E : Value → Shared → Prop⦄,
    RoomF A n → InF prog w Hz hb s₀ X env C ρ O s → Reps prog w Hz s₀.heap (WW env C O) s.heap us vs → m vs = some v → (∀ u s', Keeps s s' → Rep prog w Hz s₀.heap (WW env C O) s'.heap u v → Q u s') → wpAny (model prog w) A (call f us) Q E s
theorem Ev.call {x : String} {f : Value} {es : List Expr} {np pos : Pos} {ms : Rho → Option (List V)} {m : List V → Option V} (hx : isGlob sc x = true) (hg : GName hb x f) (hf : Calls hb f) (h : Evs prog w hb n sc es ms) (hc : CallOk prog w hb n f m)
    (hstar : ∀ env : Env, (backTo pos (starEach es env)).any (·.1) = false) : Ev prog w hb n sc (.Call (.Name (Str.ofString x) np) es [] pos) (fun ρ => (ms ρ).bind m) := by
  intro A Hz env s₀ X C ρ O s v Q E hs hA I
  refine bindI fun vs hvs hm hQ => ?_
  show wpAny _ _ (eval (.Name (Str.ofString x) np) env >>= fun f => callWith pos f [] (backTo pos (starEach es env)) []) _ _ s
  refine wpAny_bind (eval_glob I (by rw [hs]; exact hx) hg (callWith_ok hf (hstar env) (h hs hA I hvs fun us s₁ k₁ r₁ => ⟨(I.grow k₁).base.grow, ?_⟩)))
  exact hc hA (I.grow k₁) r₁ hm fun u s' k r => hQ u s' (keeps_trans k₁ k) r
theorem CallOk.fn {a : Addr} {m : List PyData → Option PyData} (h : Fn prog w hb n a m) : CallOk prog w hb n (.ref a) (fun vs => (m (vs.map (·.x))).map fun y => ⟨y, .d⟩) := by
  intro A Hz env s₀ X C ρ O s us vs v Q E hA I r hm hQ
  induction mapE hm with | mk y hy => ?_
  obtain ⟨as, rd, c, _⟩ := r.rds
  refine h hA.toRoom I.base rd c hy fun u bs s' k ru cu fr => hQ u s' k ⟨bs, ru, cu, fun a ha => ?_⟩
  exact I.fresh (fr a ha)
theorem Ev.fn {x : String} {a : Addr} {es : List Expr} {np pos : Pos} {ms : Rho → Option (List V)} {m : List PyData → Option PyData} {o : Obj} {fd : FuncData} (hx : isGlob sc x = true) (hg : GName hb x (.ref a)) (ho : hb.get? a = some o) (hd : o.data = .func fd)
    (h : Evs prog w hb n sc es ms) (hc : Fn prog w hb n a m) (hstar : ∀ env : Env, (backTo pos (starEach es env)).any (·.1) = false) :
    Ev prog w hb n sc (.Call (.Name (Str.ofString x) np) es [] pos) (fun ρ => (ms ρ).bind fun vs => (m (vs.map (·.x))).map fun y => ⟨y, .d⟩) :=
  Ev.call hx hg (.inr (.inr ⟨a, o, fd, rfl, ho, hd⟩)) h (CallOk.fn hc) hstar
noncomputable def aLen : PyData → Option PyData
  | .list xs => some (.int xs.length)
  | .tuple xs => some (.int xs.length)
  | .str x => some (.int x.length)
  | .dict kvs => if plainK kvs = true then some (.int kvs.length) else none
  | _ => none
theorem CallOk.len : CallOk prog w hb n (.builtin "len") (fun vs => match vs with | [v] => (aLen v.x).map fun y => ⟨y, .d⟩ | _ => none) := by
  intro A Hz env s₀ X C ρ O s us vs v Q E hA I r hm hQ
  dsimp only at hm
  split at hm
  · rename_i a
    induction mapE hm with | mk y hy => ?_
    obtain ⟨ax, af⟩ := a
    obtain ⟨_, rfl, r1⟩ := r.one_inv
    · skip
      obtain ⟨as, ra, ca, oa⟩ := r1
      have hz := sizeLine_small
      unfold aLen at hy
      dsimp only at *
      split at hy
      · (have e := si hy; subst e; clear hy)
        obtain ⟨_, _, _, _, q1, q2, a1, a2⟩ := ra.list_inv
        cases q1; cases q2
        · skip
          rw [wf_list] at ca
          refine call_len_list ⟨_, a1, rfl, _, rfl⟩ (by simp [a2.length]; lia) ?_
          rw [List.size_toArray, a2.length]
          exact hQ _ _ (keeps_toks s _) Rep.int
      · (have e := si hy; subst e; clear hy)
        cases ra with
        | tuple a1 az a2 =>
          rw [wf_tuple] at ca
          refine P.len_tuple a1 (by simp [a2.length]; lia) ?_
          rw [List.size_toArray, a2.length]
          exact hQ _ _ (keeps_toks s _) Rep.int
      · (have e := si hy; subst e; clear hy)
        cases ra
        rw [wf_str] at ca
        exact P.len_str (by have := ca.2; lia) (hQ _ _ (keeps_toks s _) Rep.int)
      · split at hy
        · rename_i hpk
          (have e := si hy; subst e; clear hy)
          induction ra.dictI hpk with | mk d ks xs es b1 b2 b3 b4 => ?_
          have hl : ks.length = xs.length := by simpa using congrArg List.length b3
          simp only [wf, Bool.and_eq_true, decide_eq_true_eq, List.length_map] at ca
          refine call_len_dict b2 b1 (by rw [hl]; have := ca.1; lia) ?_
          rw [hl, ← List.length_map (as := xs) (f := fun p => ((.str p.1, p.2) : PyData × PyData))]
          exact hQ _ _ (keeps_toks s _) Rep.int
        · exact no hy
      · exact no hy
  · exact no hm

theorem CallOk.int : CallOk prog w hb n (.type "int") (fun vs => match vs with | [v] => (match v.x with | .bool b => some ⟨.int (if b then 1 else 0), .d⟩ | _ => none) | _ => none) := by
  intro A Hz env s₀ X C ρ O s us vs v Q E hA I r hm hQ
  dsimp only at hm
  split at hm
  · rename_i a
    obtain ⟨ax, af⟩ := a
    dsimp only at hm
    split at hm
    · (have e := si hm; subst e; clear hm)
      obtain ⟨_, rfl, r1⟩ := r.one_inv
      · skip
        obtain ⟨as, ra, ca, oa⟩ := r1
        dsimp only at ra
        cases ra
        exact call_int_bool (hQ _ _ (keeps_toks s _) Rep.int)
    · exact no hm
  · exact no hm
theorem CallOk.list : CallOk prog w hb n (.type "list") (fun vs => match vs with | [v] => (match v.x with | .list xs => some (V.newL xs v.fl) | .tuple xs => some (V.newL xs v.fl) | _ => none) | _ => none) := by
  intro A Hz env s₀ X C ρ O s us vs v Q E hA I r hm hQ
  dsimp only at hm
  split at hm
  · rename_i a
    obtain ⟨ax, af⟩ := a
    obtain ⟨_, rfl, r1⟩ := r.one_inv
    · skip
      obtain ⟨as, ra, ca, oa⟩ := r1
      dsimp only at ra hm ca oa
      have fin : ∀ {us : List Value} {xs : List PyData} {bs : List Addr} {h' : Heap} {c' : Nat}, RDs prog w Hz s.heap us xs bs → wfs xs = true → xs.length ≤ sizeLine → FlOk s₀.heap (WW env C O) af bs → Grow s.heap h' → h'.get? s.heap.objs.size = some (lstObj us c') →
          Rep prog w Hz s₀.heap (WW env C O) h' (.ref s.heap.objs.size) (V.newL xs af) := by
        intro us xs bs h' c' q1 q2 q3 q4 k q5
        have z := I.size_fresh
        refine ⟨s.heap.objs.size :: bs, .list q5 (q1.grow k), wf_list.mpr ⟨q3, q2⟩, ?_⟩
        cases e : flats xs with
        | true =>
          rw [q1.flat_foot e]
          simp only [V.newL, e, if_true]
          intro a ha
          rw [List.mem_singleton.mp ha]; exact z
        | false =>
          simp only [V.newL, e, Bool.false_eq_true, if_false]
          induction af with
          | d => exact fun a ha => (List.mem_cons.mp ha).elim (fun q => q ▸ z) (q4 a)
          | s => exact fun a ha => (List.mem_cons.mp ha).elim (fun q => q ▸ z.2) (q4 a)
          | t => trivial
      split at hm
      · (have e := si hm; subst e; clear hm)
        obtain ⟨_, _, _, _, q1, q2, a1, a2⟩ := ra.list_inv
        cases q1; cases q2
        · skip
          rw [wf_list] at ca
          refine call_list_seq _ (.inl rfl) a1 rfl rfl (fun h' c' k q => ?_) (by simp [a2.length]; exact ca.1)
          exact hQ _ _ ⟨h', s.toks, rfl, k⟩ (fin a2 ca.2 ca.1 (oa.mono fun _ h => .tail _ h) k q)
      · (have e := si hm; subst e; clear hm)
        cases ra with
        | tuple a1 az a2 =>
          rw [wf_tuple] at ca
          refine call_list_seq _ (.inr rfl) a1 rfl rfl (fun h' c' k q => ?_) (by simp [a2.length]; exact ca.1)
          exact hQ _ _ ⟨h', s.toks, rfl, k⟩ (fin a2 ca.2 ca.1 oa k q)
      · exact no hm
  · exact no hm
noncomputable def rangeOf (k : Int) : List PyData := (List.range k.toNat).map fun (i : Nat) => .int (i : Int)
theorem It.range {tgt e : Expr} {np pos : Pos} {m : Rho → Option V} (hx : isGlob sc "range" = true) (hg : GName hb "range" (.type "range")) (h : Ev prog w hb n sc e m) (he : ∀ env, starEach [e] env = [(false, eval e env)]) :
    It prog w hb n sc tgt (.Call (.Name (Str.ofString "range") np) [e] [] pos) (fun ρ => (m ρ).bind fun v => match v.x with | .int k => if -(2 ^ 62) ≤ k ∧ k ≤ sizeLine then some (rangeOf k, .d) else none | _ => none) := by
  refine ⟨fun _ _ => rfl, ?_⟩
  intro A Hz env s₀ X C ρ O s v Q E hs hA I
  refine bindI fun z0 ha hm hQ => ?_
  obtain ⟨ax, af⟩ := z0
  dsimp only at hm
  split at hm
  · rename_i k
    revert hm
    refine ifI fun hk hm => ?_
    · (have e := si hm; subst e; clear hm)
      show wpAny _ _ (eval (.Name (Str.ofString "range") np) env >>= fun f => callWith pos f [] (backTo pos (starEach [e] env)) []) _ _ s
      refine wpAny_bind (eval_glob I (by rw [hs]; exact hx) hg (callWith_ok (hb := hb) (.inr (.inl ⟨_, rfl⟩)) (by rw [he]; rfl) (wpAny_items_cons (h hs hA I ha fun u s₁ k₁ r₁ => wpAny_items_nil ⟨(I.grow k₁).base.grow, ?_⟩) (he env))))
      obtain ⟨as, ra, ca, oa⟩ := r₁
      dsimp only at ra
      cases ra
      refine call_range_1 (wpAny_pyIter_range (IsRange.new _ _ _ _ _ _ _) (small_one (by decide) (by decide) (by lia) (Int.lt_of_le_of_lt hk.2 (by decide))) ?_)
      have hsz : Builtin.Range.rangeSize 0 k 1 = (k.toNat : Int) := by
        rw [rangeSize_one]
        split <;> lia
      have hlen : (rangeOf k).length = k.toNat := by simp [rangeOf]
      have fresh : ∀ d, s.heap.get? (s₁.heap.objs.size + d) = none := fun d => by
        cases e : s.heap.get? (s₁.heap.objs.size + d) with
        | none => rfl
        | some o =>
          exact absurd (Heap.lt_size (keeps_grow k₁ _ _ e)) (Nat.not_lt.mpr (Nat.le_add_right _ _))
      refine hQ _ [] _ [] _ _ (keeps_trans k₁ ⟨_, _, rfl, Grow.trans (Grow.push _ _) (Grow.push _ _)⟩) (Stream.ofWalks (Walks.range hA.handled _ 0 1 k.toNat) hlen (fun i v x h hv hx => ?_) fun i h st => ⟨_, _, _, st, rfl, rfl, by decide⟩) ?_ FlOk.nil ?_ ?_ fun b hb' => ?_
      · obtain ⟨t, rfl⟩ := hv
        have hi : i < k.toNat := by rw [← hlen]; exact (List.getElem?_eq_some_iff.mp hx).1
        simp only [rangeOf, List.getElem?_map, List.getElem?_range hi, Option.map_some, Option.some.injEq] at hx
        subst hx
        have e : (0 : Int) + (i : Int) * 1 = i := by lia
        rw [e]
        exact .int _ _
      · show IsRangeIter _ _ _ _ _
        rw [hsz]
        refine Eq.trans (Heap.get?_push_size _ ?_) ?_
        · rfl
        · simp
      · rw [wfs_iff]
        intro y hy
        obtain ⟨i, _, rfl⟩ := List.mem_map.mp hy
        rfl
      · rw [hlen]; lia
      · rw [List.mem_singleton.mp hb']
        have := fresh 1
        simpa using this
  · exact no hm
theorem lookup_zip {α β : Type} [BEq α] [LawfulBEq α] : ∀ {ns : List α} {us : List β}, ns.length = us.length → ∀ n ∈ ns, ((ns.zip us).lookup n).isSome = true
  | [], _, _, _, h => nomatch h
  | a :: ns, [], h, _, _ => by simp at h
  | a :: ns, u :: us, h, n, hn => by
    simp only [List.zip_cons_cons, List.lookup_cons]
    cases e : n == a with
    | true => rfl
    | false =>
      rcases List.mem_cons.mp hn with rfl | hn
      · simp at e
      · exact lookup_zip (by simpa using h) n hn
theorem filterMap_zip {α β : Type} [BEq α] [LawfulBEq α] {l : List (α × β)} : ∀ {ns : List α} {us : List β}, ns.length = us.length → ns.Nodup → (∀ n ∈ ns, l.lookup n = (ns.zip us).lookup n) → ns.filterMap (fun n => (l.lookup n).map (n, ·)) = ns.zip us
  | [], _, _, _, _ => rfl
  | a :: ns, [], h, _, _ => by simp at h
  | a :: ns, u :: us, h, hn, hl => by
    rw [List.nodup_cons] at hn
    have h0 := hl a (.head _)
    simp only [List.zip_cons_cons, List.lookup_cons, beq_self_eq_true] at h0
    rw [List.filterMap_cons, h0]
    simp only [Option.map_some, List.zip_cons_cons]
    congr 1
    refine filterMap_zip (by simpa using h) hn.2 fun n hm => ?_
    have h1 := hl n (.tail _ hm)
    have : (n == a) = false := by
      cases e : n == a with
      | false => rfl
      | true => rw [eq_of_beq e] at hm; exact absurd hm hn.1
    simp only [List.zip_cons_cons, List.lookup_cons, this] at h1
    exact h1
theorem ite_skip {α : Type} {c : Prop} {d : Decidable c} {X Y r : Sem α} (h : ¬ c) (k : Y = r) : (@ite _ c d X Y) = r := (if_neg h).trans k
theorem bind_plain {fd : FuncData} {ps : List Arg} (hp : fd.params = ⟨[], ps, none, [], [], none, []⟩) (hd : fd.defaults = .none) {us : List Value} (hl : ps.length = us.length) (hn : (ps.map (·.arg)).Nodup) :
    bindArgs fd ⟨us, []⟩ = pure ((ps.map (·.arg)).zip us) := by
  have h2 := filterMap_zip (ns := ps.map Arg.arg) (us := us) (l := (ps.map Arg.arg).zip us) (by rw [List.length_map]; exact hl) hn (fun _ _ => rfl)
  have h3 : (ps.map Arg.arg).filter (fun n => (((ps.map Arg.arg).zip us).lookup n).isNone) = [] := by
    rw [List.filter_eq_nil_iff]
    intro n hm
    have := lookup_zip (ns := ps.map Arg.arg) (us := us) (by rw [List.length_map]; exact hl) n hm
    rw [Option.isNone_iff_eq_none]
    intro e
    rw [e] at this; exact Bool.false_ne_true this
  clear hn
  obtain ⟨f1, f2, f3, f4, f5, f6, f7, f8, f9, f10, f11, f12, f13, f14, f15⟩ := fd
  subst hp
  subst hd
  refine ite_skip (c := (decide (us.length > ([] ++ ps.map Arg.arg).length) && (none : Option Arg).isNone) = true) ?_ ?_
  · rw [List.nil_append, List.length_map, hl, decide_eq_false (Nat.lt_irrefl _)]; exact Bool.false_ne_true
  have hz : ∀ i, List.drop i ((none : Option (Array Value)).getD #[]).toList = [] := fun i => List.drop_nil
  rw [hz]
  refine ite_skip ?_ ?_
  · show ¬ (!((List.take ([] ++ ps.map Arg.arg).length ([] ++ ps.map Arg.arg)).filter fun n => ((([] ++ ps.map Arg.arg).zip us).lookup n).isNone).isEmpty) = true
    rw [List.nil_append, List.take_length, h3]; exact Bool.false_ne_true
  rw [List.zip_nil_right]
  refine congrArg (fun l => (pure l : Sem (List (Str × Value)))) (a₁ := List.filterMap (fun n => Option.map (fun x => (n, x)) (List.lookup n (([] ++ ps.map Arg.arg).zip us))) (([] ++ ps.map Arg.arg) ++ [])) ?_
  rw [List.append_nil]; exact h2
noncomputable def rho0 : List String → List PyData → Rho
  | p :: ps, x :: xs => fun y => bif y == p then some (.val (V.fix x .s)) else rho0 ps xs y
  | _, _ => fun _ => none
theorem rho0_eq : ∀ (ps : List String) (xs : List PyData) (y : String), rho0 ps xs y = ((ps.zip xs).lookup y).map fun x => .val (V.fix x .s)
  | [], _, _ => by cases ‹List PyData› <;> rfl
  | _ :: _, [], _ => rfl
  | p :: ps, x :: xs, y => by
    show (bif y == p then _ else rho0 ps xs y) = _
    rw [rho0_eq ps xs y, List.zip_cons_cons, List.lookup_cons]
    cases y == p <;> rfl
noncomputable def outOf : Out → Option PyData
  | .ret y => some y
  | .next _ => some .none
  | _ => none
theorem bindL_other {k : Str → Option NameKind} {y : Str} : ∀ {binds : List (Str × Value)} {m : Str → Option Value}, (∀ p ∈ binds, p.1 ≠ y) → bindL k binds m y = m y
  | [], _, _ => rfl
  | (a, v) :: r, m, h => by
    rw [bindL, bindL_other fun p hp => h p (.tail _ hp)]
    split
    · exact if_neg fun e => h _ (.head _) e.symm
    · rfl
theorem bindC_other {k : Str → Option NameKind} {y : Str} : ∀ {binds : List (Str × Value)} {m : Str → Option Value}, (∀ p ∈ binds, p.1 ≠ y) → bindC k binds m y = m y
  | [], _, _ => rfl
  | (a, v) :: r, m, h => by
    rw [bindC, bindC_other fun p hp => h p (.tail _ hp)]
    split
    · rfl
    · exact if_neg fun e => h _ (.head _) e.symm
theorem zip_names {ps : List String} {us : List Value} {y : String} (h : y ∉ ps) : ∀ p ∈ (ps.map Str.ofString).zip us, p.1 ≠ Str.ofString y := by
  intro p hp e
  have := (List.of_mem_zip hp).1
  obtain ⟨z, hz, q⟩ := List.mem_map.mp this
  rw [← q] at e
  exact h (ofString_inj e ▸ hz)
variable (prog w Hz) in
inductive BindAt (k : Str → Option NameKind) (h : Heap) (ps : List String) (us : List Value) (xs : List PyData) (as : List Addr) (m c : Str → Option Value) (y : String) (x : PyData) : Prop
  | mk (u : Value) (bs : List Addr) (h1 : RD prog w Hz h u x bs) (h2 : ∀ b ∈ bs, b ∈ as) (h3 : x ∈ xs) (h4 : k (Str.ofString y) = some .local → bindL k ((ps.map Str.ofString).zip us) m (Str.ofString y) = some u) (h5 : k (Str.ofString y) ≠ some .local → bindC k ((ps.map Str.ofString).zip us) c (Str.ofString y) = some u) : BindAt k h ps us xs as m c y x
theorem bind_at {k : Str → Option NameKind} {h : Heap} {ps : List String} {us : List Value} {xs : List PyData} {as : List Addr} {m c : Str → Option Value} (hn : ps.Nodup) (r : RDs prog w Hz h us xs as) {y : String} {x : PyData} (e : (ps.zip xs).lookup y = some x) : BindAt prog w Hz k h ps us xs as m c y x := by
  refine RDs.ind (R := fun us xs as => ∀ {ps : List String} {m c : Str → Option Value}, ps.Nodup → (ps.zip xs).lookup y = some x → BindAt prog w Hz k h ps us xs as m c y x) (fun {ps m c} hn e => ?_) (fun {u us d ds as bs} r rs ih ps m c hn e => ?_) r hn e
  · rw [List.zip_nil_right] at e; exact no e
  induction ps with
  | nil => exact no e
  | cons p ps =>
    rw [List.nodup_cons] at hn
    simp only [List.zip_cons_cons, List.lookup_cons] at e
    by_cases hy : y = p
    · subst hy
      simp only [beq_self_eq_true] at e
      (have e := si e; subst e; clear e)
      refine ⟨u, as, r, fun b hb' => List.mem_append_left _ hb', .head _, fun hk => ?_, fun hk => ?_⟩
      · rw [List.map_cons, List.zip_cons_cons, bindL, bindL_other (zip_names hn.1), if_pos hk]; exact if_pos rfl
      · rw [List.map_cons, List.zip_cons_cons, bindC, bindC_other (zip_names hn.1), if_neg hk]; exact if_pos rfl
    · have hyp : (y == p) = false := by simpa using hy
      rw [hyp] at e
      obtain ⟨u', bs', q1, q2, q3, q4, q5⟩ := ih hn.2 e
      exact ⟨u', bs', q1, fun b hb' => List.mem_append_right _ (q2 b hb'), .tail _ q3, q4, q5⟩
noncomputable def cellsOnce (sc : Scope) : Bool := decide ((cellsFrom 0 sc.names []).map (·.1)).Nodup

theorem cells_some {x : Str} : ∀ (names : List (Str × NameKind)) (k : Nat) (acc : List (Str × Addr)), names.lookup x = some .cell ∨ (acc.lookup x).isSome = true → ((cellsFrom k names acc).lookup x).isSome = true
  | [], _, _, h => h.elim (fun e => by exact no e) id
  | (y, kd) :: r, k, acc, h => by
    unfold cellsFrom
    by_cases hk : (kd == .cell) = true
    · rw [if_pos hk]
      refine cells_some r (k + 1) ((y, k) :: acc) ?_
      by_cases hy : (x == y) = true
      · exact .inr (by rw [List.lookup_cons, hy]; rfl)
      · have hy' : (x == y) = false := by simpa using hy
        refine h.imp (fun e => ?_) fun e => ?_
        · rw [List.lookup_cons, hy'] at e; exact e
        · rw [List.lookup_cons, hy']; exact e
    · rw [if_neg hk]
      refine cells_some r k acc ?_
      by_cases hy : (x == y) = true
      · refine .inr (h.elim (fun e => ?_) id)
        rw [List.lookup_cons, hy] at e
        exact absurd (by rw [Option.some.inj e]; rfl) hk
      · have hy' : (x == y) = false := by simpa using hy
        refine h.imp (fun e => ?_) id
        rw [List.lookup_cons, hy'] at e; exact e
theorem isVar_kinds {x : String} (h : isVar sc x = true) : sc.names.lookup (Str.ofString x) = some .local ∨ sc.names.lookup (Str.ofString x) = some .cell := by
  simp only [isVar, Bool.and_eq_true, Bool.or_eq_true, decide_eq_true_eq] at h
  exact h.1
theorem pairwise_inj {cs : List (Str × Addr)} (h : cs.Pairwise fun x y => x.2 ≠ y.2) {x y : Str} {c : Addr} (hx : (x, c) ∈ cs) (hy : (y, c) ∈ cs) : x = y := by
  induction cs with
  | nil => cases hx
  | cons p cs ih =>
    rw [List.pairwise_cons] at h
    rcases List.mem_cons.mp hx with e1 | m1 <;> rcases List.mem_cons.mp hy with e2 | m2
    · rw [← e1] at e2; exact (congrArg Prod.fst e2).symm
    · exact absurd (by rw [← e1]) (h.1 _ m2)
    · exact absurd (by rw [← e2]) (h.1 _ m1)
    · exact ih h.2 m1 m2
theorem InS.start {s s' : Shared} {env : Env} {ps : List String} {us : List Value} {xs : List PyData} {as : List Addr} (b : Base prog Hz hb s.heap) (hsc : env.scope = sc) (hk : sc.kind = .function) (hg : env.globals = mainGlobals) (hbu : env.builtins = builtinsNs)
    (hcells : env.cells = cellsFrom (env.locals + 1) sc.names []) (honce : cellsOnce sc = true) (hnd : ps.Nodup) (rd : RDs prog w Hz s.heap us xs as) (hw : wfs xs = true)
    (x : InCallC s env.locals (bindL env.kindOf ((ps.map Str.ofString).zip us) fun _ => none) env.cells (bindC env.kindOf ((ps.map Str.ofString).zip us) fun _ => none) s') :
    InS prog w Hz hb s [] env (env.cells.map (·.2)) (rho0 ps xs) [] s' := by
  have keep := x.toInCall.keep
  have hL : s.heap.get? env.locals = none := get?_size_none _ x.toInCall.fresh
  have hC : ∀ c ∈ env.cells.map (·.2), s.heap.get? c = none ∧ env.locals < c := by
    intro c hc
    obtain ⟨⟨nm, c'⟩, hm, rfl⟩ := List.mem_map.mp hc
    have := x.above nm c' hm
    exact ⟨get?_size_none _ (Nat.le_trans x.toInCall.fresh (Nat.le_of_lt this)), this⟩
  have honce' : (env.cells.map (·.1)).Nodup := by
    rw [hcells, PyProof.Rows.cellsFrom_names sc.names (env.locals + 1) 0 [] [] rfl]
    exact of_decide_eq_true honce
  have hcell : ∀ c ∈ env.cells.map (·.2), ∃ v, s'.heap.IsCell c v := by
    intro c hc
    obtain ⟨⟨nm, c'⟩, hm, rfl⟩ := List.mem_map.mp hc
    exact ⟨_, x.cell nm c' (PyProof.Rows.lookup_of_mem_nodup honce' hm)⟩
  have hWW : ∀ a, a ∈ WW env (env.cells.map (·.2)) [] ↔ a = env.locals ∨ a ∈ env.cells.map (·.2) := by
    intro a; simp [WW]
  have foot : ∀ {u : Value} {d : PyData} {bs : List Addr}, RD prog w Hz s.heap u d bs → wf d = true → Rep prog w Hz s.heap (WW env (env.cells.map (·.2)) []) s'.heap u (V.fix d .s) := by
    intro u d bs r c
    refine Rep.fixed (r.grow keep) c fun a ha hq => ?_
    obtain ⟨o, e⟩ := r.alive a ha
    rcases (hWW a).mp hq with q | q
    · rw [q, hL] at e; exact no e
    · rw [(hC a q).1] at e; cases e
  have vars : ∀ y vv, rho0 ps xs y = some vv → ∃ u, RepVV prog w Hz s.heap (WW env (env.cells.map (·.2)) []) [] s'.heap y u vv ∧
      (env.kindOf (Str.ofString y) = some .local → bindL env.kindOf ((ps.map Str.ofString).zip us) (fun _ => none) (Str.ofString y) = some u) ∧ (env.kindOf (Str.ofString y) ≠ some .local → bindC env.kindOf ((ps.map Str.ofString).zip us) (fun _ => none) (Str.ofString y) = some u) := by
    intro y vv e
    rw [rho0_eq] at e
    induction mapE e with | mk d hd => ?_
    obtain ⟨u, bs, q1, q2, q3, q4, q5⟩ := bind_at (k := env.kindOf) (m := fun _ => none) (c := fun _ => none) hnd rd hd
    refine ⟨u, ⟨?_, foot q1 ((wfs_iff _).mp hw _ q3)⟩, q4, q5⟩
    unfold V.fix
    split
    · exact .inl rfl
    · exact .inr rfl
  refine ⟨⟨x.toInCall.same, b.trans keep, fun b o e _ => keep b o e, fun b o e => ⟨o, keep b o e⟩, fun a ha => ?_, fun a ha => ?_, ?_, by rw [hsc]; exact hk, hg, hbu, fun y e => ?_, ⟨_, x.toInCall.ns, fun y vv e1 e2 => ?_⟩, fun y vv e1 e2 => ?_⟩, fun y e => ?_, fun y z c h1 h2 => ?_, fun y c hc => have hm : c ∈ env.cells.map (·.2) := List.mem_map.mpr ⟨_, lookup_mem hc, rfl⟩; ⟨hm, hcell c hm⟩⟩
  · rcases (hWW a).mp ha with rfl | ha
    · obtain ⟨o, es, ep, ho, hd, _⟩ := x.toInCall.ns
      exact ⟨o, ho, fun ⟨_, _, q⟩ => by rw [q] at hd; cases hd⟩
    · obtain ⟨v, o, ho, hd⟩ := hcell a ha
      exact ⟨o, ho, fun ⟨_, _, q⟩ => by rw [q] at hd; cases hd⟩
  · have h0 : s.heap.get? a = none := by
      rcases (hWW a).mp ha with rfl | ha
      · exact hL
      · exact (hC a ha).1
    refine ⟨?_, fun _ => h0⟩
    cases e : hb.get? a with
    | none => rfl
    | some o => rw [b.grow _ _ e] at h0; cases h0
  · simp only [WW, List.flatMap_nil, List.append_nil, List.nodup_cons]
    refine ⟨fun hm => Nat.lt_irrefl _ (hC _ hm).2, ?_⟩
    have := x.apart
    rw [List.Nodup, List.pairwise_map]
    exact this
  · have hs : (env.cells.lookup y).isSome = true := by
      rw [hcells]
      exact cells_some _ _ _ (.inl (by rw [← hsc]; exact e))
    exact Option.isSome_iff_exists.mp hs
  · obtain ⟨u, r, q1, _⟩ := vars y vv e1
    exact ⟨u, q1 e2, r⟩
  · obtain ⟨u, r, _, q2⟩ := vars y vv e1
    have hs : (env.cells.lookup (Str.ofString y)).isSome = true := by
      rw [hcells]
      exact cells_some _ _ _ (.inl (by rw [← hsc]; exact e2))
    obtain ⟨c, hc⟩ := Option.isSome_iff_exists.mp hs
    refine ⟨c, u, hc, ?_, r⟩
    have := x.cell _ c hc
    rw [q2 (by rw [e2]; simp)] at this
    exact this
  · have hs : (env.cells.lookup (Str.ofString y)).isSome = true := by
      rw [hcells]
      exact cells_some _ _ _ (.inl (by rw [← hsc]; exact e))
    obtain ⟨c, hc⟩ := Option.isSome_iff_exists.mp hs
    exact ⟨c, hc, List.mem_map.mpr ⟨_, lookup_mem hc, rfl⟩⟩
  · exact pairwise_inj x.apart (lookup_mem h1) (lookup_mem h2)
structure DefOk (hb : Heap) (f : Addr) (sc : Scope) (ps : List String) (body : List Stmt) : Prop where
  there : ∃ fo fd args, hb.get? f = some fo ∧ fo.data = .func fd ∧ fd.params = ⟨[], args, none, [], [], none, []⟩ ∧ args.map (·.arg) = ps.map Str.ofString ∧ fd.body = .stmts body ∧ fd.scope = sc ∧ fd.closure = [] ∧ fd.defaults = .none ∧
    fd.globals = mainGlobals ∧ fd.builtins = builtinsNs ∧ hb.CodeRec fd.code fd.qualname
  kind : sc.kind = .function
  gen : sc.isGenerator = false
  co : sc.isCoroutine = false
  once : cellsOnce sc = true
  names : ps.Nodup
  vars : ∀ x ∈ ps, isVar sc x = true
noncomputable def fnD (ps : List String) (m : Rho → Option Out) (xs : List PyData) : Option PyData := if xs.length = ps.length then (m (rho0 ps xs)).bind outOf else none
theorem Fn.def {f : Addr} {ps : List String} {body : List Stmt} {m : Rho → Option Out} (D : DefOk hb f sc ps body) (h : St prog w hb n sc body m) : Fn prog w hb (n + 1) f (fnD ps m) := by
  intro A Hz s us xs as y Q E hA b rd hw hm hQ
  obtain ⟨fo, fd, args, ho, hd, hp, hnm, hbd, hsc, hcl, hdf, hgl, hbu, hcr⟩ := D.there
  unfold fnD at hm
  split at hm
  · rename_i hlen
    obtain ⟨o, ho', hy⟩ := bindE hm
    have hps : args.length = ps.length := by simpa using congrArg List.length hnm
    have hul : args.length = us.length := by rw [hps, rd.length, hlen]
    have hnames : (args.map (·.arg)).Nodup := by
      rw [hnm]
      rw [List.Nodup, List.pairwise_map]
      exact D.names.imp fun h e => h (ofString_inj e)
    refine wpAny_call (codeAny_call_function (fd := fd) (body := body) (by have := hA.depth; lia) (b.grow _ _ ho) hd (by rw [hsc]; exact D.co) (by rw [hsc]; exact D.gen) hbd (hcr.keeps b.grow) ?_)
    rw [bind_plain hp hdf hul hnames, hnm, hsc, hgl, hcl, hbu]
    refine wpAny_pure (wpAny_newFunctionEnv_cells D.kind (fun z hz => ?_) fun env he s' x => ?_)
    · have := (List.of_mem_zip hz).1
      obtain ⟨p, hp', e⟩ := List.mem_map.mp this
      rw [← e]
      refine (isVar_kinds (D.vars p hp')).imp id fun q => ⟨q, cells_some _ _ _ (.inl q)⟩
    · have e1 : env.scope = sc := by rw [he]; rfl
      have e2 : env.globals = mainGlobals := by rw [he]; rfl
      have e3 : env.builtins = builtinsNs := by rw [he]; rfl
      have e4 : env.cells = cellsFrom (env.locals + 1) sc.names [] := by rw [he]; rfl
      have I := InS.start (w := w) b e1 D.kind e2 e3 e4 D.once D.names rd hw x
      refine ⟨I.base.nolimit, codeAny_func ?_⟩
      have pe : PlainEnv env := ⟨by rw [e1]; exact D.gen, by rw [e1]; exact D.co, e3, e2⟩
      refine h e1 (hA.deeper pe) I ho' ?_
      have keeps : ∀ {ρ : Rho} {O' : List (String × List Addr)} {s'' : Shared}, InS prog w Hz hb s [] env (env.cells.map (·.2)) ρ O' s'' → Keeps s s'' := by
        intro ρ O' s'' J
        obtain ⟨h', tk, e⟩ := J.same
        exact ⟨h', tk, e, fun b o eb => by have := J.keep b o eb (by simp); rw [e] at this; exact this⟩
      induction o with
      | next ρ =>
        (have e := si hy; subst e; clear hy)
        intro O' s'' J _
        exact hQ .none [] s'' (keeps J) .none rfl fun _ q => nomatch q
      | ret z =>
        (have e := si hy; subst e; clear hy)
        intro u as' O' ρ s'' J ru cu fr
        exact hQ u as' s'' (keeps J) ru cu fun a ha => (fr a ha).elim (fun q => nomatch q) id
      | brk ρ => exact no hy
      | cont ρ => exact no hy
      | retT z ρ => exact no hy
  · exact no hm

noncomputable def whileD (t : Rho → Option Bool) (b : Rho → Option Out) : Nat → Rho → Option Out
  | 0, _ => none
  | k + 1, ρ => (t ρ).bind fun c => if c then (b ρ).bind fun o => (match o with
      | .next ρ' => whileD t b k ρ'
      | .cont ρ' => whileD t b k ρ'
      | .brk ρ' => some (.next ρ')
      | .ret y => some (.ret y)
      | .retT y ρ => some (.retT y ρ)) else some (.next ρ)
theorem S1.while {t : Expr} {body : List Stmt} {pos : Pos} {mt : Rho → Option Bool} {mb : Rho → Option Out} (k : Nat) (ht : Tr prog w hb n sc t mt) (hbd : St prog w hb n sc body mb) : S1 prog w hb n sc (.While t body [] pos) (whileD mt mb k) := by
  intro A Hz env s₀ X C ρ O s r Q E hs hA I hm hQ
  refine wpAny_While (codeAny_whileLoop (fun i s₂ => ∃ ρ₂ O₂, InS prog w Hz hb s₀ X env C ρ₂ O₂ s₂ ∧ Step s.heap s₂.heap (WW env C O) (WW env C O₂) ∧ whileD mt mb i ρ₂ = some r) ?_ k ⟨ρ, O, I, Step.refl _ _, hm⟩)
  rintro i s₂ ⟨ρ₂, O₂, I₂, T₂, hm₂⟩
  cases i with
  | zero => exact no hm₂
  | succ i =>
    simp only [whileD] at hm₂
    obtain ⟨c, hc, hm₂⟩ := bindE hm₂
    refine ht hs hA I₂.toInF hc fun s₃ k₃ => ?_
    have I₃ := I₂.grow k₃
    have T₃ := T₂.trans (Step.of_grow (keeps_grow k₃))
    induction c with
    | true =>
      obtain ⟨o, ho, hm₃⟩ := bindE hm₂
      refine hbd hs hA I₃ ho ?_
      induction o with
      | next ρ₄ => exact fun O₄ s₄ I₄ T₄ => ⟨i, Nat.lt_succ_self _, ρ₄, O₄, I₄, T₃.trans T₄, hm₃⟩
      | cont ρ₄ => exact fun O₄ s₄ I₄ T₄ => ⟨i, Nat.lt_succ_self _, ρ₄, O₄, I₄, T₃.trans T₄, hm₃⟩
      | brk ρ₄ => (have e := si hm₃; subst e; clear hm₃); exact fun O₄ s₄ I₄ T₄ => hQ O₄ s₄ I₄ (T₃.trans T₄)
      | ret y => (have e := si hm₃; subst e; clear hm₃); exact hQ
      | retT y ρ => (have e := si hm₃; subst e; clear hm₃); exact hQ
    | false =>
      (have e := si hm₂; subst e; clear hm₂)
      exact wpAny_execs_nil (hQ O₂ s₃ I₃ T₃)

noncomputable def relS (scope sc : Scope) : Scope :=
  { scope with names := scope.names.map fun (x, k) => if (k == .free && sc.kind == .function && sc.names.lookup x == some .cell) then (x, .cell) else (x, k) }
theorem relabel_eq (scope : Scope) (env : Env) : relabel scope env = relS scope env.scope := rfl
noncomputable def clos (cells : List (Str × Addr)) : List (Str × NameKind) → List (Str × Addr) → List (Str × Addr)
  | [], acc => acc
  | (x, k) :: r, acc => if k == .free then clos cells r ((x, (cells.lookup x).getD 0) :: acc) else clos cells r acc
theorem closureFor_clos {scope : Scope} {env : Env} (h : ∀ p ∈ scope.names, p.2 = .free → ∃ c, env.cells.lookup p.1 = some c) : closureFor scope env = pure (clos env.cells scope.names []) := by
  unfold closureFor
  have key : ∀ (l : List (Str × NameKind)) (acc : List (Str × Addr)), (∀ p ∈ l, p.2 = .free → ∃ c, env.cells.lookup p.1 = some c) →
      (forIn l acc fun (p : Str × NameKind) (cs : List (Str × Addr)) => (if (p.2 == NameKind.free) = true then do
          let a ← cellOf env p.1
          pure (ForInStep.yield ((p.1, a) :: cs))
        else pure (ForInStep.yield cs) : Sem (ForInStep (List (Str × Addr))))) = pure (clos env.cells l acc) := by
    intro l
    induction l with
    | nil => intro acc _; rfl
    | cons p l ih =>
      intro acc h
      obtain ⟨x, k⟩ := p
      rw [List.forIn_cons]
      by_cases hk : (k == NameKind.free) = true
      · obtain ⟨c, hc⟩ := h (x, k) (.head _) (by simpa using hk)
        simp only [hk, if_true, clos]
        have e : cellOf env x = pure c := by unfold cellOf; rw [hc]
        simp only [e, pure_bind, hc, Option.getD_some]
        exact ih _ fun p hp => h p (.tail _ hp)
      · simp only [hk, Bool.false_eq_true, if_false, clos, pure_bind]
        exact ih _ fun p hp => h p (.tail _ hp)
  have := key scope.names [] h
  simpa using this
theorem clos_lookup {cells : List (Str × Addr)} {x : Str} {c : Addr} (hc : cells.lookup x = some c) : ∀ (names : List (Str × NameKind)) (acc : List (Str × Addr)), (acc.lookup x = none ∨ acc.lookup x = some c) → ((x, NameKind.free) ∈ names ∨ acc.lookup x = some c) → (clos cells names acc).lookup x = some c
  | [], acc, _, h => h.elim (fun q => nomatch q) id
  | (y, k) :: r, acc, h0, h => by
    unfold clos
    by_cases hk : (k == NameKind.free) = true
    · rw [if_pos hk]
      by_cases hy : x = y
      · subst hy
        have e : ((x, (cells.lookup x).getD 0) :: acc).lookup x = some c := by rw [List.lookup_cons, beq_self_eq_true, hc]; rfl
        exact clos_lookup hc r _ (.inr e) (.inr e)
      · have e : ((y, (cells.lookup y).getD 0) :: acc).lookup x = acc.lookup x := by
          rw [List.lookup_cons]
          have : (x == y) = false := by simpa using hy
          rw [this]
        refine clos_lookup hc r _ (by rw [e]; exact h0) ?_
        rw [e]
        refine h.imp (fun q => ?_) id
        rcases List.mem_cons.mp q with q | q
        · exact absurd (congrArg Prod.fst q) hy
        · exact q
    · rw [if_neg hk]
      refine clos_lookup hc r acc h0 (h.imp (fun q => ?_) id)
      rcases List.mem_cons.mp q with q | q
      · have := congrArg Prod.snd q
        simp only at this
        rw [← this] at hk
        exact absurd rfl hk
      · exact q
structure CompOk (scope sc : Scope) (locs : List String) : Prop where
  kind : scope.kind = .function
  nocell : ∀ p ∈ scope.names, p.2 ≠ .cell
  free : ∀ p ∈ scope.names, p.2 = .free → sc.names.lookup p.1 = some .cell
  locs : ∀ p ∈ scope.names, p.2 = .local → scope.names.lookup p.1 = some .local ∧ p.1 ∈ locs.map Str.ofString
noncomputable def compOk (scope sc : Scope) (locs : List String) : Bool :=
  decide (scope.kind = .function) && scope.names.all (fun p => decide (p.2 ≠ .cell) && (decide (p.2 ≠ .free) || decide (sc.names.lookup p.1 = some .cell)) && (decide (p.2 ≠ .local) || (decide (scope.names.lookup p.1 = some .local) && (locs.map Str.ofString).contains p.1)))
theorem CompOk.of {scope sc : Scope} {locs : List String} (h : compOk scope sc locs = true) : CompOk scope sc locs := by
  simp only [compOk, Bool.and_eq_true, List.all_eq_true, decide_eq_true_eq, Bool.or_eq_true] at h
  refine ⟨h.1, fun p hp => (h.2 p hp).1.1, fun p hp e => (h.2 p hp).1.2.resolve_left (fun q => q e), fun p hp e => ?_⟩
  obtain ⟨a, b⟩ := (h.2 p hp).2.resolve_left (fun q => q e)
  exact ⟨a, by simpa using b⟩
theorem relS_cell {scope : Scope} {x : Str} (hn : ∀ p ∈ scope.names, p.2 ≠ .cell) (h : (relS scope sc).names.lookup x = some .cell) : (x, NameKind.free) ∈ scope.names ∧ sc.names.lookup x = some .cell := by
  unfold relS at h
  simp only at h
  have key : ∀ (l : List (Str × NameKind)), (∀ p ∈ l, p.2 ≠ .cell) → (l.map fun (x, k) => if (k == NameKind.free && sc.kind == .function && sc.names.lookup x == some .cell) then (x, NameKind.cell) else (x, k)).lookup x = some .cell → (x, NameKind.free) ∈ l ∧ sc.names.lookup x = some .cell := by
    intro l
    induction l with
    | nil => intro _ h; exact no h
    | cons p l ih =>
      obtain ⟨y, k⟩ := p
      intro hn h
      rw [List.map_cons] at h
      by_cases hc : (k == NameKind.free && sc.kind == .function && sc.names.lookup y == some .cell) = true
      · simp only [hc, if_true, List.lookup_cons] at h
        split at h
        · rename_i e
          have e := eq_of_beq e
          subst e
          simp only [Bool.and_eq_true, beq_iff_eq] at hc
          exact ⟨by rw [hc.1.1]; exact .head _, hc.2⟩
        · obtain ⟨a, b⟩ := ih (fun p hp => hn p (.tail _ hp)) h
          exact ⟨.tail _ a, b⟩
      · simp only [hc, Bool.false_eq_true, if_false, List.lookup_cons] at h
        split at h
        · (have e := si h; subst e; clear h); exact absurd rfl (hn _ (.head _))
        · obtain ⟨a, b⟩ := ih (fun p hp => hn p (.tail _ hp)) h
          exact ⟨.tail _ a, b⟩
  exact key _ hn h
theorem relS_local {scope : Scope} {x : Str} (h : (relS scope sc).names.lookup x = some .local) : (x, NameKind.local) ∈ scope.names := by
  unfold relS at h
  simp only at h
  have key : ∀ (l : List (Str × NameKind)), (l.map fun (x, k) => if (k == NameKind.free && sc.kind == .function && sc.names.lookup x == some .cell) then (x, NameKind.cell) else (x, k)).lookup x = some .local → (x, NameKind.local) ∈ l := by
    intro l
    induction l with
    | nil => intro h; exact no h
    | cons p l ih =>
      obtain ⟨y, k⟩ := p
      intro h
      rw [List.map_cons] at h
      by_cases hc : (k == NameKind.free && sc.kind == .function && sc.names.lookup y == some .cell) = true
      · simp only [hc, if_true, List.lookup_cons] at h
        split at h
        · cases h
        · exact .tail _ (ih h)
      · simp only [hc, Bool.false_eq_true, if_false, List.lookup_cons] at h
        split at h
        · rename_i e
          have e := eq_of_beq e
          (have e := si h; subst e; clear h)
          rw [e]; exact .head _
        · exact .tail _ (ih h)
  exact key _ h
noncomputable def memS : List String → String → Bool
  | [], _ => false
  | s :: l, t => (t == s) || memS l t
theorem memS_nil {t : String} : memS [] t = false := rfl
theorem memS_cons {s t : String} {l : List String} : memS (s :: l) t = ((t == s) || memS l t) := rfl
theorem memS_mem {t : String} : ∀ {l : List String}, memS l t = false → t ∉ l
  | [], _, h => nomatch h
  | s :: l, e, h => by
    simp only [memS, Bool.or_eq_false_iff, beq_eq_false_iff_ne] at e
    rcases List.mem_cons.mp h with h | h
    · exact e.1 h
    · exact memS_mem e.2 h
noncomputable def inComp (locs : List String) (ρ : Rho) : Rho := fun x => bif memS locs x then none else (ρ x).bind fun vv => (rdVar vv).map fun v => .val (V.fix v.x .s)
section
variable {s₀ s : Shared} {X : List Addr} {env : Env} {C : List Addr} {ρ : Rho} {O : List (String × List Addr)}
theorem InF.setL (I : InF prog w Hz hb s₀ X env C ρ O s) {x : String} {u : Value} {v : VV} {m : Str → Option Value} {h' : Heap} {tk : Nat} (hk : env.kindOf (Str.ofString x) = some .local)
    (hmv : ∀ y vv, ρ y = some vv → env.kindOf (Str.ofString y) = some .local → ∃ u, m (Str.ofString y) = some u ∧ RepVV prog w Hz s₀.heap (WW env C O) O s.heap y u vv)
    (hn : h'.Ns env.locals (fun y => if y = Str.ofString x then some u else m y)) (hs : Heap.SameBut env.locals s.heap h') (r : RepVV prog w Hz s₀.heap (WW env C O) O s.heap x u v) :
    InF prog w Hz hb s₀ X env C (ρ.set x v) O { s with heap := h', toks := tk } := by
  have K : Wrote [env.locals] (WW env C O) s.heap h' := by
    refine ⟨fun a ha => by rw [List.mem_singleton.mp ha]; exact .head _, fun b o e hb' => (hs.2 b (by simpa using hb')).trans e, fun a ha => ?_⟩
    rw [List.mem_singleton.mp ha]
    obtain ⟨o, es, ep, ho, hd, _⟩ := hn
    refine ⟨o, ho, fun ⟨vs, k, hc⟩ => ?_⟩
    rw [hc] at hd; cases hd
  obtain ⟨w1, w2, w3, w4, w5⟩ := I.wrote K
  obtain ⟨h0, t0, e0⟩ := I.same
  refine ⟨⟨h', tk, by rw [e0]⟩, w1, w2, w3, w4, I.wfresh, I.wnodup, I.kind, I.glob, I.bult, I.clk, ⟨_, hn, fun y vv e1 e2 => ?_⟩, fun y vv e1 e2 => ?_⟩
  · have e1' : (if y = x then some v else ρ y) = some vv := (set_if _ _ _ _).symm.trans e1
    by_cases hy : y = x
    · subst hy
      rw [if_pos rfl] at e1'
      (have e := si e1'; subst e; clear e1')
      refine ⟨u, if_pos rfl, r.wrote w5 K.same fun sp hsp a ha => ?_⟩
      simpa using (own_off I.wnodup hsp ha).1
    · rw [if_neg hy] at e1'
      obtain ⟨u', a, b⟩ := hmv y vv e1' e2
      refine ⟨u', (if_neg fun q => hy (ofString_inj q)).trans a, b.wrote w5 K.same fun sp hsp a ha => ?_⟩
      simpa using (own_off I.wnodup hsp ha).1
  · have hy : y ≠ x := fun q => by rw [q, hk] at e2; cases e2
    have e1' : (if y = x then some v else ρ y) = some vv := (set_if _ _ _ _).symm.trans e1
    rw [if_neg hy] at e1'
    obtain ⟨c, u', a, b, d⟩ := I.cell y vv e1' e2
    refine ⟨c, u', a, b.sameBut hs (fun q => ?_), d.wrote w5 K.same fun sp hsp a ha => ?_⟩
    · obtain ⟨o, ho, hd⟩ := b
      obtain ⟨m', ⟨oL, es, ep, hL, hdL, _⟩, _⟩ := I.ns
      rw [q, hL] at ho; (have e := si ho; subst e; clear ho)
      rw [hdL] at hd; cases hd
    · simpa using (own_off I.wnodup hsp ha).1
theorem InF.storeL {A : Around} {E : Value → Shared → Prop} {Q : Unit → Shared → Prop} (I : InF prog w Hz hb s₀ X env C ρ O s) {x : String} {u : Value} {v : VV} (hk : env.kindOf (Str.ofString x) = some .local) (r : RepVV prog w Hz s₀.heap (WW env C O) O s.heap x u v)
    (hQ : ∀ h' tk, InF prog w Hz hb s₀ X env C (ρ.set x v) O { s with heap := h', toks := tk } → Heap.SameBut env.locals s.heap h' → Q () { s with heap := h', toks := tk }) : wpAny (model prog w) A (storeName env (Str.ofString x) u) Q E s := by
  obtain ⟨m, hm, hv⟩ := I.ns
  exact wpAny_storeName_local hk hm (fun h' hn hs => hQ h' _ (I.setL hk hv hn hs r) hs) (by rw [I.kind]; rfl)
theorem InF.weaken (I : InF prog w Hz hb s₀ X env C ρ O s) {ρ' : Rho} (h : ∀ x v, ρ' x = some v → ρ x = some v) : InF prog w Hz hb s₀ X env C ρ' O s := by
  refine ⟨I.same, I.base, I.keep, I.alive, I.walive, I.wfresh, I.wnodup, I.kind, I.glob, I.bult, I.clk, ?_, fun x vv e1 e2 => I.cell x vv (h x vv e1) e2⟩
  obtain ⟨m, hm, hv⟩ := I.ns
  exact ⟨m, hm, fun x vv e1 e2 => hv x vv (h x vv e1) e2⟩
end
noncomputable def TgL (prog : Program) (w : World) (hb : Heap) (sc : Scope) (locs : List String) (tgt : Expr) (m : V → Rho → Option Rho) : Prop :=
  (∀ v ρ ρ', m v ρ = some ρ' → ∀ x, x ∉ locs → ρ' x = ρ x) ∧
  ∀ ⦃A : Around⦄ ⦃Hz : List Addr⦄ ⦃env : Env⦄ ⦃s₀ : Shared⦄ ⦃X C : List Addr⦄ ⦃ρ ρ' : Rho⦄ ⦃O : List (String × List Addr)⦄ ⦃s : Shared⦄ ⦃u : Value⦄ ⦃v : V⦄ ⦃Q : Unit → Shared → Prop⦄ ⦃E : Value → Shared → Prop⦄,
    env.scope = sc → A.handled = none → InF prog w Hz hb s₀ X env C ρ O s → Rep prog w Hz s₀.heap (WW env C O) s.heap u v → m v ρ = some ρ' →
    (∀ h' tk, InF prog w Hz hb s₀ X env C ρ' O { s with heap := h', toks := tk } → (∀ b o, b ≠ env.locals → s.heap.get? b = some o → h'.get? b = some o) → Q () { s with heap := h', toks := tk }) → wpAny (model prog w) A (PySem.assign tgt env u) Q E s
noncomputable def isLoc (sc : Scope) (x : String) : Bool := decide (sc.names.lookup (Str.ofString x) = some .local)
theorem TgL.name {x : String} {pos : Pos} {locs : List String} (hv : isLoc sc x = true) (hl : x ∈ locs) : TgL prog w hb sc locs (.Name (Str.ofString x) pos) (putR x) := by
  refine ⟨fun v ρ ρ' h y hy => ?_, ?_⟩
  · obtain ⟨_, rfl⟩ := putR_some h
    have hyx : y ≠ x := fun e => hy (by rw [e]; exact hl)
    exact (set_if _ _ _ _).trans (if_neg hyx)
  intro A Hz env s₀ X C ρ ρ' O s u v Q E hs hA I r hm hQ
  obtain ⟨hf, rfl⟩ := putR_some hm
  have hk : env.kindOf (Str.ofString x) = some .local := by unfold Env.kindOf; rw [hs]; exact of_decide_eq_true hv
  exact wpAny_assign_Name (I.storeL (v := .val v) hk ⟨hf, r⟩ fun h' tk I' hsb => hQ h' tk I' fun b o hb' e => (hsb.2 b hb').trans e)
theorem assign_namesL {A : Around} {env : Env} {s₀ : Shared} {X C : List Addr} {O : List (String × List Addr)} {Q : Unit → Shared → Prop} {E : Value → Shared → Prop} (hs : env.scope = sc) :
    ∀ {xs : List String} {elts : List Expr} {us : List Value} {vs : List V} {ρ ρ' : Rho} {s : Shared}, (∀ x ∈ xs, isLoc sc x = true) → elts.length = xs.length → InF prog w Hz hb s₀ X env C ρ O s → Reps prog w Hz s₀.heap (WW env C O) s.heap us vs → putRs xs vs ρ = some ρ' →
    (∀ h' tk, InF prog w Hz hb s₀ X env C ρ' O { s with heap := h', toks := tk } → (∀ b o, b ≠ env.locals → s.heap.get? b = some o → h'.get? b = some o) → Q () { s with heap := h', toks := tk }) →
    wpAny (model prog w) A (assignInOrder ((xs.zipWith (fun x e => (false, PySem.assign (.Name (Str.ofString x) e.pos) env)) elts).map (·.2)) us) Q E s
  | [], [], us, vs, ρ, ρ', s, _, _, I, r, hm, hQ => by
    induction vs with
    | nil => cases r; (have e := si hm; subst e; clear hm); exact wpAny_pure (hQ s.heap s.toks I fun _ _ _ e => e)
    | cons _ _ => simp [putRs] at hm
  | [], _ :: _, _, _, _, _, _, _, h, _, _, _, _ => by simp at h
  | _ :: _, [], _, _, _, _, _, _, h, _, _, _, _ => by simp at h
  | x :: xs, e :: elts, us, vs, ρ, ρ', s, hv, hl, I, r, hm, hQ => by
    cases r with
    | nil => simp [putRs] at hm
    | cons r1 r2 =>
      rename_i u v us vs
      have hfl := (putRs_len hm).2
      simp only [putRs] at hm
      obtain ⟨ρ₁, h1, h2⟩ := bindE hm
      obtain ⟨hf, rfl⟩ := putR_some h1
      have hk : env.kindOf (Str.ofString x) = some .local := by unfold Env.kindOf; rw [hs]; exact of_decide_eq_true (hv x (.head _))
      refine wpAny_bind (wpAny_holding (wpAny_assign_Name (I.storeL (v := .val v) hk ⟨hf, r1⟩ fun h₁ tk₁ I₁ hsb => ?_)))
      have off : Off (WW env C O) s.heap h₁ := by
        intro b o eb hc
        refine (hsb.2 b fun q => ?_).trans eb
        rcases hc with hc | hc
        · exact hc (q ▸ .head _)
        · obtain ⟨o', e', nt⟩ := I.walive env.locals (.head _)
          rw [q, e'] at eb; (have e := si eb; subst e; clear eb); exact nt hc
      exact assign_namesL hs (fun y hy => hv y (.tail _ hy)) (by simpa using hl) I₁ (r2.off off fun v hv => hfl v (.tail _ hv)) h2 fun h' tk I' kp => hQ h' tk I' fun b o hb' e => kp b o hb' ((hsb.2 b hb').trans e)
theorem putRs_other : ∀ {xs : List String} {vs : List V} {ρ ρ' : Rho}, putRs xs vs ρ = some ρ' → ∀ y, y ∉ xs → ρ' y = ρ y
  | [], [], _, _, h, y, _ => by (have e := si h; subst e; clear h); rfl
  | [], _ :: _, _, _, h, _, _ => by simp [putRs] at h
  | _ :: _, [], _, _, h, _, _ => by simp [putRs] at h
  | x :: xs, v :: vs, ρ, ρ', h, y, hy => by
    simp only [putRs] at h
    obtain ⟨ρ₁, h1, h2⟩ := bindE h
    obtain ⟨_, rfl⟩ := putR_some h1
    rw [putRs_other h2 y fun q => hy (.tail _ q)]
    have hyx : y ≠ x := fun e => hy (by rw [e]; exact .head _)
    exact (set_if _ _ _ _).trans (if_neg hyx)
theorem TgL.tuple {xs : List String} {elts : List Expr} {k : Nat} {pos : Pos} {locs : List String} (hv : ∀ x ∈ xs, isLoc sc x = true) (hlc : ∀ x ∈ xs, x ∈ locs) (hlen : elts.length = xs.length)
    (he : ∀ env : Env, assignEach elts env = xs.zipWith (fun x e => (false, PySem.assign (.Name (Str.ofString x) e.pos) env)) elts) :
    TgL prog w hb sc locs (.Tuple elts k pos) (fun v ρ => (tupOf v).bind fun vs => putRs xs vs ρ) := by
  refine ⟨fun v ρ ρ' h y hy => ?_, ?_⟩
  · obtain ⟨vs, _, h⟩ := bindE h
    exact putRs_other h y fun q => hy (hlc y q)
  intro A Hz env s₀ X C ρ ρ' O s u v Q E hs hA I r
  refine bindI fun vs hvs hm hQ => ?_
  obtain ⟨vx, vf⟩ := v
  obtain ⟨as, ra, ca, oa⟩ := r
  unfold tupOf at hvs
  dsimp only at *
  split at hvs
  · rename_i ys
    (have e := si hvs; subst e; clear hvs)
    cases ra with
    | tuple a1 az a2 =>
      rename_i us kk
      rw [wf_tuple] at ca
      have hl := a2.length
      have hrs : ∀ {us : List Value} {ys : List PyData} {as : List Addr}, RDs prog w Hz s.heap us ys as → wfs ys = true → FlOk s₀.heap (WW env C O) vf as → Reps prog w Hz s₀.heap (WW env C O) s.heap us (ys.map fun x => V.fix x vf) := by
        intro us
        induction us with
        | nil => intro ys as r _ _; cases r; exact .nil
        | cons u us ih =>
          intro ys as r c o
          cases r with
          | cons r1 r2 =>
            simp only [wfs, Bool.and_eq_true] at c
            exact .cons (Rep.fixed r1 c.1 (o.mono fun _ h => List.mem_append_left _ h)) (ih r2 c.2 (o.mono fun _ h => List.mem_append_right _ h))
      have reps := hrs a2 ca.2 oa
      clear hrs
      have hxl : xs.length = us.length := by
        rw [(putRs_len hm).1, reps.length]
      refine wpAny_assign_Tuple hA ⟨_, a1, rfl, _, rfl⟩ (by rw [he]; simp [hlen, hxl]) ?_ fun h' ext => ?_
      · rw [he, List.findIdx?_eq_none_iff]
        intro p hp
        obtain ⟨i, hi, rfl⟩ := List.mem_iff_getElem.mp hp
        simp
      have k' : Keeps s { s with heap := h' } := ⟨h', s.toks, rfl, fun b o e => ext b o (Nat.ne_of_lt (Heap.lt_size e)) e⟩
      have I' := I.grow k'
      have reps' := reps.grow (keeps_grow k')
      rw [he]
      exact assign_namesL hs hv hlen I' reps' hm fun h'' tk I'' kp => hQ h'' tk I'' fun b o hb' e => kp b o hb' (keeps_grow k' _ _ e)
  · exact no hvs

theorem codeAny_compLoop_any {A : Around} {R : Result → Shared → Prop} {s : Shared} {elt target iter : Expr} {ifs : List Expr} {scope : Scope} {pos : Pos} {it acc : Value} {env : Env} (I : Nat → Shared → Prop)
    (turn : ∀ n s, I n s → wpAny (model prog w) A (pyNext it) (fun r s₁ => match r with
      | none => R (.ok .next) s₁
      | some v => wpAny (model prog w) A (letOwnedTupleGo target it v) (fun _ s₁' => wpAny (model prog w) A (assign target env v) (fun _ s₂ =>
          wpAny (model prog w) A (forIn ifs true fun c r => if r = true then do let ok ← isTrue c env (eval c env); pure (ForInStep.yield ok) else pure (ForInStep.yield r)) (fun ok s₃ =>
            if ok = true then wpAny (model prog w) A (eval elt env) (fun x s₄ =>
              wpAny (model prog w) A (call (.builtin "list.append") [acc, x]) (fun _ s₅ => ∃ m, m < n ∧ I m s₅) (notedBy (model prog w) A env fun e s' => R (.error e) s') s₄) (notedBy (model prog w) A env fun e s' => R (.error e) s') s₃
            else ∃ m, m < n ∧ I m s₃) (notedBy (model prog w) A env fun e s' => R (.error e) s') s₂) (notedBy (model prog w) A env fun e s' => R (.error e) s') s₁') (notedBy (model prog w) A env fun e s' => R (.error e) s') s₁) (notedBy (model prog w) A env fun e s' => R (.error e) s') s)
    (n : Nat) (h : I n s) :
    codeAny (model prog w) A (.compLoop (.ListComp elt [⟨target, iter, ifs, 0⟩] scope pos) 0 it acc env) R s := by
  refine codeAny_loop rfl I (fun n s hI => ?_) n h
  show wpAny _ A ((compTurn (.ListComp elt [⟨target, iter, ifs, 0⟩] scope pos) 0 it acc env).onRaise (fun x => do noteFrame x env; theTreesLotGoes x)) _ _ s
  refine wpAny_noted ?_
  rw [compTurn_list]
  refine wpAny_bind (wpAny_standAt (wpAny_bind (wpAny_mono (turn n s hI) (fun r s₁ h₁ => ?_) fun _ _ h' => h')))
  induction r with
  | none => exact wpAny_pure h₁
  | some v =>
    refine wpAny_bind (wpAny_mono h₁ (fun _ s₁' h₁' => ?_) fun _ _ h' => h')
    refine wpAny_bind (wpAny_mono h₁' (fun _ s₂ h₂ => wpAny_bind (wpAny_mono h₂ (fun ok s₃ h₃ => ?_) fun _ _ h' => h')) fun _ _ h' => h')
    induction ok with
    | false => exact wpAny_pure ⟨rfl, h₃⟩
    | true =>
      exact wpAny_bind (wpAny_bind (wpAny_mono h₃ (fun x s₄ h₄ => wpAny_bind (wpAny_mono h₄ (fun _ s₅ h₅ => wpAny_pure (wpAny_pure ⟨rfl, h₅⟩)) fun _ _ h' => h')) fun _ _ h' => h'))
noncomputable def Ifs (prog : Program) (w : World) (hb : Heap) (n : Nat) (sc : Scope) (cs : List Expr) (m : Rho → Option Bool) : Prop :=
  ∀ ⦃A : Around⦄ ⦃Hz : List Addr⦄ ⦃env : Env⦄ ⦃s₀ : Shared⦄ ⦃X C : List Addr⦄ ⦃ρ : Rho⦄ ⦃O : List (String × List Addr)⦄ ⦃s : Shared⦄ ⦃v : Bool⦄ ⦃Q : Bool → Shared → Prop⦄ ⦃E : Value → Shared → Prop⦄,
    env.scope = sc → RoomF A n → InF prog w Hz hb s₀ X env C ρ O s → m ρ = some v → (∀ s', Keeps s s' → Q v s') →
    wpAny (model prog w) A (forIn cs true fun c r => if r = true then do let ok ← isTrue c env (eval c env); pure (ForInStep.yield ok) else pure (ForInStep.yield r)) Q E s
theorem Ifs.nil : Ifs prog w hb n sc [] (fun _ => some true) := by
  intro A Hz env s₀ X C ρ O s v Q E hs hA I hm hQ
  (have e := si hm; subst e; clear hm)
  exact wpAny_tests_nil (hQ s (keeps_refl s))
theorem Ifs.one {c : Expr} {m : Rho → Option Bool} (h : Tr prog w hb n sc c m) : Ifs prog w hb n sc [c] m := by
  intro A Hz env s₀ X C ρ O s v Q E hs hA I hm hQ
  exact wpAny_tests_one (h hs hA I hm hQ)
noncomputable def compD (bind : V → Rho → Option Rho) (test : Rho → Option Bool) (elt : Rho → Option V) (ρ : Rho) : List PyData → Option (List PyData)
  | [] => some []
  | x :: xs => (bind (V.fix x .s) ρ).bind fun ρ₁ => (test ρ₁).bind fun c => if c then (elt ρ₁).bind fun v => if v.fl = .d then (compD bind test elt ρ xs).map (v.x :: ·) else none else compD bind test elt ρ xs
theorem InF.writeO {s₀ s : Shared} {X : List Addr} {env : Env} {C : List Addr} {ρ : Rho} {O : List (String × List Addr)} (I : InF prog w Hz hb s₀ X env C ρ O s) (hval : ∀ x vv, ρ x = some vv → ∃ v, vv = .val v) {z : Addr} {h' : Heap} {tk : Nat} (hz : z ∈ WW env C O) (hzL : z ≠ env.locals)
    (hzo : ∃ vs k, s.heap.get? z = some (lstObj vs k)) (hs : Heap.SameBut z s.heap h') (ht : ∃ ob, h'.get? z = some ob ∧ ¬ Tup ob) : InF prog w Hz hb s₀ X env C ρ O { s with heap := h', toks := tk } := by
  have K : Wrote [z] (WW env C O) s.heap h' :=
    ⟨fun b hb' => by rw [List.mem_singleton.mp hb']; exact hz, fun b ob e hb' => (hs.2 b (by simpa using hb')).trans e, fun b hb' => by rw [List.mem_singleton.mp hb']; exact ht⟩
  obtain ⟨w1, w2, w3, w4, w5⟩ := I.wrote K
  obtain ⟨h0, t0, e0⟩ := I.same
  refine ⟨⟨h', tk, by rw [e0]⟩, w1, w2, w3, w4, I.wfresh, I.wnodup, I.kind, I.glob, I.bult, I.clk, ?_, fun y vv e1 e2 => ?_⟩
  · obtain ⟨m, hm, hv⟩ := I.ns
    refine ⟨m, hm.sameBut hs (Ne.symm hzL), fun y vv e1 e2 => ?_⟩
    obtain ⟨u, a, b⟩ := hv y vv e1 e2
    obtain ⟨v, rfl⟩ := hval y vv e1
    exact ⟨u, a, b.1, b.2.off w5 b.1⟩
  · obtain ⟨c, u, a, b, d⟩ := I.cell y vv e1 e2
    obtain ⟨v, rfl⟩ := hval y vv e1
    refine ⟨c, u, a, b.sameBut hs (fun q => ?_), d.1, d.2.off w5 d.1⟩
    obtain ⟨o, ho, hd⟩ := b
    obtain ⟨vs, k, e⟩ := hzo
    rw [q, e] at ho; (have e := si ho; subst e; clear ho); cases hd
theorem inComp_val {locs : List String} {ρ : Rho} {x : String} {vv : VV} (h : inComp locs ρ x = some vv) : x ∉ locs ∧ ∃ v0 v, ρ x = some v0 ∧ rdVar v0 = some v ∧ vv = .val (V.fix v.x .s) := by
  unfold inComp at h
  cases hx : memS locs x with
  | true => rw [hx] at h; exact no h
  | false =>
    rw [hx] at h
    obtain ⟨v0, h1, h2⟩ := bindE h
    obtain ⟨v, h3, h4⟩ := Option.map_eq_some_iff.mp h2
    exact ⟨memS_mem hx, v0, v, h1, h3, h4.symm⟩
theorem fix_ds (x : PyData) : (V.fix x .s).fl = .d ∨ (V.fix x .s).fl = .s := by
  unfold V.fix; split
  · exact .inl rfl
  · exact .inr rfl

variable (prog w) in
inductive CompI (Hz : List Addr) (hb : Heap) (s : Shared) (cenv : Env) (ρ : Rho) (D C' : Addr) (S : Nat → Heap → Prop) (bind : V → Rho → Option Rho) (mt : Rho → Option Bool) (me : Rho → Option V) (xs ys : List PyData) : Nat → Shared → Prop
  | mk (i : Nat) (us : List Value) (ys' rest : List PyData) (cs : List Addr) (kk : Nat) (s₅ : Shared) (h1 : i ≤ xs.length) (h2 : InF prog w Hz hb s [] cenv [] ρ [(".acc", [D])] s₅) (h3 : s₅.heap.get? D = some (lstObj us kk)) (h4 : RDs prog w Hz s₅.heap us ys' cs)
      (h5 : FlOk s.heap [C', D] .d cs) (h6 : wfs ys' = true) (h7 : ys'.length ≤ i) (h8 : S i s₅.heap) (h9 : compD bind mt me ρ (xs.drop i) = some rest) (h10 : ys = ys' ++ rest) : CompI Hz hb s cenv ρ D C' S bind mt me xs ys (xs.length + 1 - i) s₅
set_option maxHeartbeats 2000000 in
theorem comp_core {elt tgt iter : Expr} {ifs : List Expr} {scope : Scope} {pos : Pos} {locs : List String} {mi : Rho → Option (List PyData × Fl)} {bind : V → Rho → Option Rho} {mt : Rho → Option Bool} {me : Rho → Option V} (ok : CompOk scope sc locs)
    (hi : It prog w hb n sc tgt iter mi) (ht : TgL prog w hb (relS scope sc) locs tgt bind) (hif : Ifs prog w hb n (relS scope sc) ifs mt) (he : Ev prog w hb n (relS scope sc) elt me)
    {A : Around} {env : Env} {s₀ : Shared} {X C : List Addr} {ρ : Rho} {O : List (String × List Addr)} {s : Shared} {E : Value → Shared → Prop} {xs : List PyData} {f : Fl} {ys : List PyData} {R : Value → Addr → Result → Shared → Prop}
    (hs : env.scope = sc) (hA : RoomF A n) (I : InF prog w Hz hb s₀ X env C ρ O s) (hv : mi ρ = some (xs, f)) (hd : compD bind mt me (inComp locs ρ) xs = some ys)
    (hR : ∀ D C' s' cs m, Keeps s s' → RD prog w Hz s'.heap (.ref D) (.list ys) (D :: cs) → wf (.list ys) = true → (∀ a ∈ D :: cs, s.heap.get? a = none ∧ a ≠ C') → s.heap.get? C' = none → s'.heap.Ns C' m → R (.ref D) C' (.ok .next) s') :
    wpAny (model prog w) A (eval iter env) (fun x s₁ => wpAny (model prog w) A (pyIter x) (fun it s₂ => wpAny (model prog w) A (newList []) (fun acc s₃ =>
      wpAny (model prog w) A (newFunctionEnv scope env.globals (clos env.cells scope.names []) [] env.qual none .none (some env)) (fun cenv s₄ =>
        codeAny (model prog w) A (.compStart (.ListComp elt [⟨tgt, iter, ifs, 0⟩] scope pos) 0 it acc { cenv with scope := relabel scope env }) (R acc cenv.locals) s₄) E s₃) E s₂) E s₁) E s := by
  refine hi.2 hs hA I hv fun J F wr Zs S s₂ k₂ T hS hF hwf hlen hwr => ?_
  dsimp only at T hF hwf hlen
  refine wpAny_newObj_type (wpAny_newFunctionEnv ok.nocell (by intro y hy; simp at hy) (fun h₁ hns₁ hsb₁ => ?_) ok.kind)
  dsimp only at hns₁ hsb₁ ⊢
  -- the addresses
  have hDs : s.heap.get? s₂.heap.objs.size = none := by
    cases e : s.heap.get? s₂.heap.objs.size with
    | none => rfl
    | some o => exact absurd (Heap.lt_size (keeps_grow k₂ _ _ e)) (Nat.lt_irrefl _)
  generalize hH : s₂.heap.push { cls := .type "list", dict := none, data := .seq ([] : List Value).toArray } = H at hns₁ hsb₁ ⊢
  have hHs : H.objs.size = s₂.heap.objs.size + 1 := by rw [← hH, Heap.size_push]
  have hCs : s.heap.get? H.objs.size = none := by
    cases e : s.heap.get? H.objs.size with
    | none => rfl
    | some o =>
      have := Heap.lt_size (keeps_grow k₂ _ _ e)
      rw [hHs] at this
      exact absurd this (Nat.not_lt.mpr (Nat.le_succ _))
  have hDC : s₂.heap.objs.size ≠ H.objs.size := by rw [hHs]; exact Nat.ne_of_lt (Nat.lt_succ_self _)
  have old : ∀ b o, s₂.heap.get? b = some o → h₁.get? b = some o := by
    intro b o e
    have hb1 := Heap.lt_size e
    refine hsb₁.extBut b o ?_ (Heap.get?_push_of_some _ (hH ▸ Heap.get?_push_of_some _ e))
    rw [hHs]; exact Nat.ne_of_lt (Nat.lt_succ_of_lt hb1)
  have below : ∀ b o, s₂.heap.get? b = some o → b ≠ H.objs.size ∧ b ≠ s₂.heap.objs.size := by
    intro b o e
    have hb1 := Heap.lt_size e
    exact ⟨by rw [hHs]; exact Nat.ne_of_lt (Nat.lt_succ_of_lt hb1), Nat.ne_of_lt hb1⟩
  have hD₁ : h₁.get? s₂.heap.objs.size = some (lstObj [] 0) := hsb₁.extBut _ _ hDC (Heap.get?_push_of_some _ (hH ▸ Heap.get?_push_size _ rfl))
  generalize hD : s₂.heap.objs.size = D at *
  generalize hC' : H.objs.size = C' at *
  have hbD : ∀ a, s.heap.get? a = none → hb.get? a = none := by
    intro a ha
    cases e : hb.get? a with
    | none => rfl
    | some o => rw [I.base.grow _ _ e] at ha; cases ha
  have kall : ∀ b o, s.heap.get? b = some o → h₁.get? b = some o := fun b o e => old b o (keeps_grow k₂ _ _ e)
  obtain ⟨hx0, tx0, ex0⟩ := k₂
  -- the block's own frame
  let cenv : Env := { newEnv scope C' env.globals (clos env.cells scope.names []) env.qual none .none (some env) 0 with scope := relabel scope env }
  have ceq : ∀ b, { newEnv scope C' env.globals (clos env.cells scope.names []) env.qual none .none (some env) b with scope := relabel scope env } = cenv := fun _ => rfl
  have csc : cenv.scope = relS scope sc := by show relabel scope env = _; rw [relabel_eq, hs]
  have cW : WW cenv [] [(".acc", [D])] = [C', D] := rfl
  have DZ : ∀ a o, s.heap.get? a = some o → a ∉ Hz → a ∉ Zs ++ Hz := fun a o e q z => (List.mem_append.mp z).elim (fun z => by rw [hwr a (T.sub a z)] at e; exact no e) q
  have dropD : ∀ (h : Heap) a o, h.get? a = some o → a ∉ Zs ++ Hz → a ∉ Hz := fun _ a _ _ q z => q (List.mem_append_right _ z)
  have notHz : ∀ b ∈ wr, b ∉ Hz := fun b hb' hz => by
    obtain ⟨_, o, e, _⟩ := I.base.hide b hz
    rw [hwr b hb'] at e; cases e
  have bI := I.base.trans kall
  have cI : ∀ tk, InF prog w (Zs ++ Hz) hb s [] cenv [] (inComp locs ρ) [(".acc", [D])] { s₂ with heap := h₁, toks := tk } := by
    intro tk
    refine ⟨⟨h₁, tk, by rw [ex0.1]⟩, ⟨fun z hz => (List.mem_append.mp hz).elim (fun q => ⟨hbD z (hwr z (T.sub z q)), by obtain ⟨o, e, t⟩ := T.tups 0 _ hS z q; exact ⟨o, old z o e, t⟩⟩) (bI.hide z), bI.lim, bI.seer, bI.tree, bI.mods, bI.grow⟩, fun b o e _ => kall b o e, fun b o e => ⟨o, kall b o e⟩, ?_, ?_, ?_, ?_, ?_, ?_, ?_, ?_, ?_⟩
    · rw [cW]
      intro a ha
      rcases List.mem_cons.mp ha with rfl | ha
      · obtain ⟨o, es, ep, ho, hd', _⟩ := hns₁
        exact ⟨o, ho, fun ⟨_, _, q⟩ => by rw [q] at hd'; cases hd'⟩
      · rw [List.mem_singleton.mp ha]; exact ⟨_, hD₁, not_tup_lst _ _⟩
    · rw [cW]
      intro a ha
      rcases List.mem_cons.mp ha with rfl | ha
      · exact ⟨hbD _ hCs, fun _ => hCs⟩
      · rw [List.mem_singleton.mp ha]; exact ⟨hbD _ hDs, fun _ => hDs⟩
    · rw [cW]; simp [Ne.symm hDC]
    · rw [csc]; exact ok.kind
    · exact I.glob
    · exact I.bult
    · intro x e
      have e' : (relS scope sc).names.lookup x = some .cell := by rw [← csc]; exact e
      obtain ⟨q1, q2⟩ := relS_cell ok.nocell e'
      obtain ⟨c, hc⟩ := I.clk x (by unfold Env.kindOf; rw [hs]; exact q2)
      exact ⟨c, clos_lookup hc _ _ (.inl rfl) (.inl q1)⟩
    · refine ⟨_, hns₁, fun x vv e1 e2 => ?_⟩
      have e' : (relS scope sc).names.lookup (Str.ofString x) = some .local := by rw [← csc]; exact e2
      have hx := (ok.locs _ (relS_local e') rfl).2
      obtain ⟨y, hy, q⟩ := List.mem_map.mp hx
      rw [ofString_inj q] at hy
      exact absurd hy (inComp_val e1).1
    · intro x vv e1 e2
      have e' : (relS scope sc).names.lookup (Str.ofString x) = some .cell := by rw [← csc]; exact e2
      obtain ⟨q1, q2⟩ := relS_cell ok.nocell e'
      obtain ⟨_, v0, v, r1, r2, rfl⟩ := inComp_val e1
      obtain ⟨c, u, hc, hu, rep⟩ := I.cell x v0 r1 (by unfold Env.kindOf; rw [hs]; exact q2)
      refine ⟨c, u, clos_lookup hc _ _ (.inl rfl) (.inl q1), isCell_grow hu kall, fix_ds _, ?_⟩
      obtain ⟨as, rd, cw, _⟩ := rep.rd r2
      refine Rep.fixed (((hide_both DZ).1 rd).grow kall) cw fun a ha => ?_
      rw [cW]
      obtain ⟨o, e⟩ := rd.alive a ha
      simp only [List.mem_cons, List.not_mem_nil, or_false, not_or]
      exact ⟨(fun q => by rw [q, hCs] at e; exact no e), (fun q => by rw [q, hDs] at e; cases e)⟩
  have hval : ∀ x vv, inComp locs ρ x = some vv → ∃ v, vv = .val v := fun x vv e => let ⟨_, _, v, _, _, q⟩ := inComp_val e; ⟨_, q⟩
  have wrOk : ∀ b ∈ wr, hb.get? b = none ∧ s.heap.get? b = none ∧ b ∉ WW cenv [] [(".acc", [D])] := by
    intro b hb'
    refine ⟨hbD b (hwr b hb'), hwr b hb', ?_⟩
    rw [cW]
    obtain ⟨o, e⟩ := T.there hS hb'
    obtain ⟨q1, q2⟩ := below b o e
    simp [q1, q2]
  have FOk : ∀ a ∈ F, a ∉ WW cenv [] [(".acc", [D])] := by
    intro a ha
    rw [cW]
    obtain ⟨o, e⟩ := T.alive 0 _ hS a ha
    obtain ⟨q1, q2⟩ := below a o e
    simp [q1, q2]
  have wr' : ∀ b ∈ wr, b ∉ WW cenv [] [(".acc", [D])] := fun b hb' => (wrOk b hb').2.2
  have hS₁ : S 0 h₁ := T.frame 0 _ _ (WW cenv [] [(".acc", [D])]) hS (fun b o e _ => old b o e) FOk wr'
  have loop : ∀ tk, codeAny (model prog w) A (.compLoop (.ListComp elt [⟨tgt, iter, ifs, 0⟩] scope pos) 0 (.ref J) (.ref D) cenv) (R (.ref D) C') { s₂ with heap := h₁, toks := tk } := by
    intro tk₀
    refine codeAny_compLoop_any (CompI prog w (Zs ++ Hz) hb s cenv (inComp locs ρ) D C' S bind mt me xs ys) ?_ (xs.length + 1)
      (CompI.mk 0 [] [] ys [] 0 _ (Nat.zero_le _) (cI tk₀) hD₁ .nil FlOk.nil rfl (Nat.le_refl _) hS₁ hd rfl)
    rintro k s₅ ⟨i, us, ys', rest, cs, kk, _, hil, I₅, hD₅, rd₅, fo₅, wf₅, len₅, hS₅, hm₅, hys⟩
    by_cases hlt : i < xs.length
    · have hx : xs[i]? = some xs[i] := List.getElem?_eq_getElem hlt
      rw [List.drop_eq_getElem_cons hlt] at hm₅
      simp only [compD] at hm₅
      obtain ⟨ρ₁, hb₁, hm₆⟩ := bindE hm₅
      obtain ⟨c, hc, hm₇⟩ := bindE hm₆
      refine wpAny_mono (T.turn i _ s₅ ?Q (notedBy (model prog w) A cenv fun e s' => R (.ref D) C' (.error e) s') hx hS₅ (fun z hz => let ⟨_, o, e, _⟩ := I₅.base.hide z (List.mem_append_right _ hz); ⟨o, e⟩) ?k) ?hgo fun _ _ e => e
      case hgo =>
        intro rr s₆ h₆
        induction rr with
        | none => exact h₆.elim
        | some v => exact h₆
      case k =>
        intro v as h' tk rd has hS₆ kp
        have I₆ := I₅.iterTo (Hy := Zs ++ Hz) (tk := tk) (T.inert i _ hS₅) wrOk kp (fun _ q => q) (fun z hz hw => (List.mem_append.mp hz).elim (T.tups _ _ hS₆ z) fun q => absurd q (notHz z hw))
        have K₆ : Inert (Zs ++ Hz) s₅.heap h' := Inert.of (T.inert i _ hS₅) (T.tups i _ hS₅) kp
        have hD₆ : h'.get? D = some (lstObj us kk) := K₆ _ _ hD₅ (fun _ q => by cases q) fun _ => not_tup_lst _ _
        have rd₆ := rd₅.inert K₆
        have rep : Rep prog w (Zs ++ Hz) s.heap (WW cenv [] [(".acc", [D])]) h' v (V.fix xs[i] .s) := Rep.fixed rd ((wfs_iff _).mp hwf _ (List.getElem_mem _)) fun a ha => FOk a (has a ha)
        refine ht.2 csc hA.handled I₆ rep hb₁ fun h₇ tk₇ I₇ kp₇ => ?_
        have off₇ : Off (WW cenv [] [(".acc", [D])]) h' h₇ := by
          intro b o e hc'
          refine kp₇ b o (fun q => ?_) e
          rcases hc' with hc' | hc'
          · exact hc' (q ▸ .head _)
          · obtain ⟨o', e', nt⟩ := I₆.walive cenv.locals (.head _)
            rw [q] at e
            rw [e] at e'; (have e := si e'; subst e; clear e'); exact nt hc'
        have hS₇ := T.frame _ _ _ _ hS₆ off₇ FOk wr'
        have hD₇ : h₇.get? D = some (lstObj us kk) := kp₇ _ _ hDC hD₆
        have fo₅' : ∀ a ∈ cs, a ∉ WW cenv [] [(".acc", [D])] := fun a ha => by rw [cW]; exact (fo₅ a ha).2
        have rd₇ := rd₆.off off₇ fo₅'
        refine hif csc hA I₇ hc fun s₈ k₈ => ?_
        have I₈ := I₇.grow k₈
        have back : ∀ {s₉ : Shared}, InF prog w (Zs ++ Hz) hb s [] cenv [] ρ₁ [(".acc", [D])] s₉ → InF prog w (Zs ++ Hz) hb s [] cenv [] (inComp locs ρ) [(".acc", [D])] s₉ := fun J => J.weaken fun x vv e => by
          rw [ht.1 _ _ _ hb₁ x (inComp_val e).1]; exact e
        have hS₈ := T.frame _ _ _ (WW cenv [] [(".acc", [D])]) hS₇ (Off.of_grow (keeps_grow k₈)) FOk wr'
        have hD₈ := keeps_grow k₈ _ _ hD₇
        have rd₈ := rd₇.grow (keeps_grow k₈)
        induction c with
        | false =>
          simp only [Bool.false_eq_true, if_false] at hm₇ ⊢
          exact ⟨_, turn_lt hlt, .mk (i + 1) us ys' rest cs kk _ hlt (back I₈) hD₈ rd₈ fo₅ wf₅ (Nat.le_succ_of_le len₅) hS₈ hm₇ hys⟩
        | true =>
          simp only [if_true] at hm₇ ⊢
          obtain ⟨ev, hev, hm₈⟩ := bindE hm₇
          split at hm₈
          · rename_i hfl
            induction mapE hm₈ with | mk rest' hr' => ?_
            refine he csc hA I₈ hev fun u s₉ k₉ r₉ => ?_
            obtain ⟨bs, rdu, cwu, fou⟩ := r₉
            rw [hfl, cW] at fou
            have hul := rd₅.length
            have hD₉ := keeps_grow k₉ _ _ hD₈
            refine wpAny_list_append_plain (items := us.toArray) ⟨kk, hD₉⟩ (fun h₁₀ pl sb => ?_) (by simp; lia)
            obtain ⟨k', hD₁₀⟩ := pl
            have hD₁₀' : h₁₀.get? D = some (lstObj (us ++ [u]) k') := by rw [hD₁₀]; simp
            have I₁₀ := (back (I₈.grow k₉)).writeO (tk := s₉.toks) hval (z := D) (h' := h₁₀) (by rw [cW]; simp) hDC ⟨_, _, hD₉⟩ sb ⟨_, hD₁₀', not_tup_lst _ _⟩
            have off₁₀ : Off (WW cenv [] [(".acc", [D])]) s₉.heap h₁₀ := by
              intro b o e hc'
              refine (sb.2 b fun q => ?_).trans e
              rcases hc' with hc' | hc'
              · exact hc' (by rw [cW, q]; simp)
              · rw [q, hD₉] at e; cases e; exact not_tup_lst _ _ hc'
            refine ⟨_, turn_lt hlt, .mk (i + 1) (us ++ [u]) (ys' ++ [ev.x]) rest' (cs ++ (bs ++ [])) k' _ hlt I₁₀ hD₁₀' ?_ ?_ ?_ ?_ ?_ hr' (by rw [hys]; simp)⟩
            · exact ((rd₈.grow (keeps_grow k₉)).off off₁₀ fo₅').append (.cons (rdu.off off₁₀ fun a ha => by rw [cW]; exact (fou a ha).2) .nil)
            · rw [List.append_nil]; exact FlOk.append fo₅ fou
            · rw [wfs_append, wf₅]; simp [wfs, cwu]
            · simp; lia
            · exact T.frame _ _ _ _ (T.frame _ _ _ (WW cenv [] [(".acc", [D])]) hS₈ (Off.of_grow (keeps_grow k₉)) FOk wr') off₁₀ FOk wr'
          · exact no hm₈
    · have hi' : i = xs.length := by lia
      subst hi'
      simp only [List.drop_length, compD] at hm₅
      cases hm₅
      refine T.done s₅ _ _ hS₅ fun h' tk kp => ?_
      have I₆ := I₅.iterTo (Hy := Hz) (tk := tk) (T.inert _ _ hS₅) wrOk kp (fun _ q => List.mem_append_right _ q) (fun z hz hw => absurd hz (notHz z hw))
      have K₆ : Inert (Zs ++ Hz) s₅.heap h' := Inert.of (T.inert _ _ hS₅) (T.tups _ _ hS₅) kp
      have hD₆ : h'.get? D = some (lstObj us kk) := K₆ _ _ hD₅ (fun _ q => by cases q) fun _ => not_tup_lst _ _
      obtain ⟨m, hm, _⟩ := I₆.ns
      obtain ⟨h'', tk'', e''⟩ := I₆.same
      rw [List.append_nil] at hys
      subst hys
      refine hR D C' _ cs m ⟨h'', tk'', e'', fun b o e => ?_⟩ (.list hD₆ ((hide_both (dropD _)).2 (rd₅.inert K₆))) (wf_list.mpr ⟨by lia, wf₅⟩) (fun a ha => ?_) hCs hm
      · have := I₆.keep b o e (by simp)
        rw [e''] at this; exact this
      · rcases List.mem_cons.mp ha with rfl | ha
        · exact ⟨hDs, hDC⟩
        · obtain ⟨q1, q2⟩ := fo₅ a ha
          exact ⟨q1, fun q => q2 (q ▸ .head _)⟩
  exact codeAny_compStart_list (loop _) (T.self 0 _ _ _ hS₁ (loop _))

noncomputable def compV (mi : Rho → Option (List PyData × Fl)) (locs : List String) (bind : V → Rho → Option Rho) (mt : Rho → Option Bool) (me : Rho → Option V) (ρ : Rho) : Option (List PyData) :=
  (mi ρ).bind fun v => compD bind mt me (inComp locs ρ) v.1
theorem Ev.comp {elt tgt iter : Expr} {ifs : List Expr} {scope : Scope} {pos : Pos} {locs : List String} {mi : Rho → Option (List PyData × Fl)} {bind : V → Rho → Option Rho} {mt : Rho → Option Bool} {me : Rho → Option V} (ok : compOk scope sc locs = true)
    (hi : It prog w hb n sc tgt iter mi) (ht : TgL prog w hb (relS scope sc) locs tgt bind) (hif : Ifs prog w hb n (relS scope sc) ifs mt) (he : Ev prog w hb n (relS scope sc) elt me) :
    Ev prog w hb n sc (.ListComp elt [⟨tgt, iter, ifs, 0⟩] scope pos) (fun ρ => (compV mi locs bind mt me ρ).map fun ys => ⟨.list ys, .d⟩) := by
  intro A Hz env s₀ X C ρ O s v Q E hs hA I hm hQ
  induction mapE hm with | mk ys hys => ?_
  obtain ⟨⟨xs, f⟩, hv, hd⟩ := bindE hys
  have OK := CompOk.of ok
  have hcl : ∀ p ∈ scope.names, p.2 = .free → ∃ c, env.cells.lookup p.1 = some c := fun p hp e => I.clk p.1 (by unfold Env.kindOf; rw [hs]; exact OK.free p hp e)
  show wpAny _ _ (comprehension (.ListComp elt [⟨tgt, iter, ifs, 0⟩] scope pos) scope env (firstIterPos [⟨tgt, iter, ifs, 0⟩] pos) (newList []) false (eval iter env)) _ _ s
  refine wpAny_comprehension_free (g := ⟨tgt, iter, ifs, 0⟩) (gs := []) rfl (hi.1 env) (closureFor_clos hcl) OK.kind (fun x hx e => (OK.locs x hx e).1) ?_
  refine comp_core OK hi ht hif he hs hA I hv hd fun D C' s' cs m k rd cw fr hC hn => ?_
  refine ⟨m, hn, fun h' hsb => ?_⟩
  have k' : Keeps s { s' with heap := h' } := by
    obtain ⟨h1, t1, e1, g1⟩ := k
    subst e1
    exact ⟨h', t1, rfl, fun b o e => (hsb.2 b fun q => by rw [q, hC] at e; exact no e).trans (g1 b o e)⟩
  refine hQ _ _ k' ⟨D :: cs, rd.off (W := [C']) (fun b o e hc => ?_) (fun a ha => by simpa using (fr a ha).2), cw, fun a ha => I.fresh (fr a ha).1⟩
  refine (hsb.2 b fun q => ?_).trans e
  obtain ⟨o', es, ep, ho', hd', _⟩ := hn
  rcases hc with hc | hc
  · exact hc (by simp [q])
  · rw [q, ho'] at e; (have e := si e; subst e; clear e)
    obtain ⟨_, _, z⟩ := hc
    rw [z] at hd'; cases hd'

section
variable {s₀ s : Shared} {X : List Addr} {env : Env} {C : List Addr} {ρ : Rho} {O : List (String × List Addr)}
theorem InS.setG (I : InS prog w Hz hb s₀ X env C ρ O s) {x : String} {u : Value} {v : VV} {m : Str → Option Value} {h' : Heap} {tk : Nat} (hk : env.kindOf (Str.ofString x) = some .local)
    (hmv : ∀ y vv, ρ y = some vv → env.kindOf (Str.ofString y) = some .local → ∃ u, m (Str.ofString y) = some u ∧ RepVV prog w Hz s₀.heap (WW env C O) O s.heap y u vv)
    (hn : h'.Ns env.locals (fun y => if y = Str.ofString x then some u else m y)) (hs : ∀ b o, b ≠ env.locals → s.heap.get? b = some o → h'.get? b = some o) (r : RepVV prog w Hz s₀.heap (WW env C O) O h' x u v) :
    InS prog w Hz hb s₀ X env C (ρ.set x v) O { s with heap := h', toks := tk } := by
  have K : Wrote [env.locals] (WW env C O) s.heap h' := by
    refine ⟨fun a ha => by rw [List.mem_singleton.mp ha]; exact .head _, fun b o e hb' => hs b o (by simpa using hb') e, fun a ha => ?_⟩
    rw [List.mem_singleton.mp ha]
    obtain ⟨o, es, ep, ho, hd, _⟩ := hn
    refine ⟨o, ho, fun ⟨vs, k, hc⟩ => ?_⟩
    rw [hc] at hd; cases hd
  obtain ⟨w1, w2, w3, w4, w5⟩ := I.toInF.wrote K
  obtain ⟨h0, t0, e0⟩ := I.same
  have hne : ∀ c ∈ C, c ≠ env.locals := fun c hc e => by
    have := I.wnodup
    unfold WW at this
    rw [List.nodup_cons] at this
    exact this.1 (e ▸ List.mem_append_left _ hc)
  refine ⟨⟨⟨h', tk, by rw [e0]⟩, w1, w2, w3, w4, I.wfresh, I.wnodup, I.kind, I.glob, I.bult, I.clk, ⟨_, hn, fun y vv e1 e2 => ?_⟩, fun y vv e1 e2 => ?_⟩, I.fc, I.finj, fun z c hc => ?_⟩
  · have e1' : (if y = x then some v else ρ y) = some vv := (set_if _ _ _ _).symm.trans e1
    by_cases hy : y = x
    · subst hy
      rw [if_pos rfl] at e1'
      (have e := si e1'; subst e; clear e1')
      exact ⟨u, if_pos rfl, r⟩
    · rw [if_neg hy] at e1'
      obtain ⟨u', a, b⟩ := hmv y vv e1' e2
      refine ⟨u', (if_neg fun q => hy (ofString_inj q)).trans a, b.wrote w5 K.same fun sp hsp a ha => ?_⟩
      simpa using (own_off I.wnodup hsp ha).1
  · have hy : y ≠ x := fun q => by rw [q, hk] at e2; cases e2
    have e1' : (if y = x then some v else ρ y) = some vv := (set_if _ _ _ _).symm.trans e1
    rw [if_neg hy] at e1'
    obtain ⟨c, u', a, ⟨o, ho, hd⟩, d⟩ := I.cell y vv e1' e2
    refine ⟨c, u', a, ⟨o, hs c o (hne c (I.cello _ c a).1) ho, hd⟩, d.wrote w5 K.same fun sp hsp a ha => ?_⟩
    simpa using (own_off I.wnodup hsp ha).1
  · obtain ⟨q, v, o, ho, hd⟩ := I.cello z c hc
    exact ⟨q, v, o, hs c o (hne c q) ho, hd⟩
end
noncomputable def swapB (sc scope : Scope) (x : String) (line vline : Nat) : Bool :=
  sc.names.lookup (Str.ofString x) == some .local && line == vline && !(scope.names.any fun p => p.1 == Str.ofString x && (p.2 == .local || p.2 == .cell))
theorem swaps_eq {env : Env} {elt : Expr} {gens : List Comprehension} {scope : Scope} {pos p : Pos} {x : String} {line : Nat} (hs : env.scope = sc) (hk : sc.kind = .function) :
    swapsWith (.ListComp elt gens scope pos) (some (.Name (Str.ofString x) p)) line env = pure (swapB sc scope x p.line pos.line) := by
  unfold swapsWith swapB Env.blockKind Env.kindOf
  simp only [hs, hk]
  rfl
theorem S1.assignComp {x : String} {elt tgt iter : Expr} {ifs : List Expr} {scope : Scope} {p cpos pos : Pos} {locs : List String} {mi : Rho → Option (List PyData × Fl)} {bind : V → Rho → Option Rho} {mt : Rho → Option Bool} {me : Rho → Option V} (ok : compOk scope sc locs = true)
    (hi : It prog w hb n sc tgt iter mi) (ht : TgL prog w hb (relS scope sc) locs tgt bind) (hif : Ifs prog w hb n (relS scope sc) ifs mt) (he : Ev prog w hb n (relS scope sc) elt me) (hsw : swapB sc scope x p.line cpos.line = true) :
    S1 prog w hb n sc (.Assign [.Name (Str.ofString x) p] (.ListComp elt [⟨tgt, iter, ifs, 0⟩] scope cpos) pos) (fun ρ => (compV mi locs bind mt me ρ).map fun ys => .next (ρ.set x (.val ⟨.list ys, .d⟩))) := by
  intro A Hz env s₀ X C ρ O s r Q E hs hA I hm hQ
  induction mapE hm with | mk ys hys => ?_
  obtain ⟨⟨xs, f⟩, hv, hd⟩ := bindE hys
  have OK := CompOk.of ok
  have hk : env.kindOf (Str.ofString x) = some .local := by
    simp only [swapB, Bool.and_eq_true] at hsw
    unfold Env.kindOf; rw [hs]; exact eq_of_beq hsw.1.1
  have hcl : ∀ p ∈ scope.names, p.2 = .free → ∃ c, env.cells.lookup p.1 = some c := fun p hp e => I.clk p.1 (by unfold Env.kindOf; rw [hs]; exact OK.free p hp e)
  have hsw' : swapsWith (.ListComp elt [⟨tgt, iter, ifs, 0⟩] scope cpos) (some (.Name (Str.ofString x) p)) pos.line env = pure true := by
    rw [swaps_eq hs (by rw [← hs]; exact I.kind), hsw]
  rw [exec_Assign_Name_used _ _ _ _ hsw']
  refine wpAny_bind (wpAny_standAt (wpAny_bind ?_))
  show wpAny _ A (do let _ ← comprehension (.ListComp elt [⟨tgt, iter, ifs, 0⟩] scope cpos) scope env _ (newList []) false (eval iter env) (some (PySem.assign (.Name (Str.ofString x) p) env))) _ _ s
  refine wpAny_bind (wpAny_mono (wpAny_comprehension_free (use := some (PySem.assign (.Name (Str.ofString x) p) env)) (Q := fun _ s' => Q .next s') (g := ⟨tgt, iter, ifs, 0⟩) (gs := []) rfl (hi.1 env) (closureFor_clos hcl) OK.kind (fun x hx e => (OK.locs x hx e).1) ?_)
    (fun _ s' hq => wpAny_pure (wpAny_pure hq)) fun _ _ e => e)
  refine comp_core OK hi ht hif he hs hA I.toInF hv hd fun D C' s' cs m k rd cw fr hC hn => ?_
  show wpAny _ A (PySem.assign (.Name (Str.ofString x) p) env (.ref D)) _ _ s'
  obtain ⟨mL, hmL, hvL⟩ := I.ns
  have hLs : ∃ o, s.heap.get? env.locals = some o := by obtain ⟨o, _, _, ho, _⟩ := hmL; exact ⟨o, ho⟩
  have hLC : env.locals ≠ C' := fun q => by obtain ⟨o, ho⟩ := hLs; rw [q, hC] at ho; exact no ho
  refine wpAny_assign_Name (wpAny_storeName_local hk (hmL.keeps (keeps_grow k)) (fun h₂ hn₂ hs₂ => ?_) (by rw [I.kind]; rfl))
  refine ⟨m, hn.sameBut hs₂ (Ne.symm hLC), fun h₃ hs₃ => ?_⟩
  have kk : ∀ b o, b ≠ env.locals → s.heap.get? b = some o → h₃.get? b = some o := fun b o hbL e =>
    (hs₃.2 b fun q => by rw [q, hC] at e; exact no e).trans ((hs₂.2 b hbL).trans (keeps_grow k b o e))
  obtain ⟨h1, t1, e1, g1⟩ := k
  subst e1
  have fr' : ∀ a ∈ D :: cs, s₀.heap.get? a = none ∧ a ∉ WW env C O := fun a ha => I.toInF.fresh (fr a ha).1
  have rd₃ : RD prog w Hz h₃ (.ref D) (.list ys) (D :: cs) := by
    refine rd.off (W := [env.locals, C']) (fun b o e hc => ?_) fun a ha => ?_
    · have hbL : b ≠ env.locals := fun q => by
        rcases hc with hc | hc
        · exact hc (by simp [q])
        · obtain ⟨o', es, ep, ho', hd', _⟩ := hmL
          obtain ⟨_, _, z⟩ := hc
          rw [q, g1 _ _ ho'] at e; (have e := si e; subst e; clear e)
          rw [z] at hd'; cases hd'
      have hbC : b ≠ C' := fun q => by
        rcases hc with hc | hc
        · exact hc (by simp [q])
        · obtain ⟨o', es, ep, ho', hd', _⟩ := hn
          obtain ⟨_, _, z⟩ := hc
          rw [q] at e
          rw [e] at ho'; (have e := si ho'; subst e; clear ho')
          rw [z] at hd'; cases hd'
      exact (hs₃.2 b hbC).trans ((hs₂.2 b hbL).trans e)
    · have h1' := fr a ha
      have h2' := fr' a ha
      simp only [List.mem_cons, List.not_mem_nil, or_false, not_or]
      exact ⟨fun q => h2'.2 (q ▸ .head _), h1'.2⟩
  refine hQ O _ (I.setG (u := .ref D) (v := .val ⟨.list ys, .d⟩) hk hvL (hn₂.sameBut hs₃ hLC) kk ⟨.inl rfl, D :: cs, rd₃, cw, fr'⟩) ⟨fun b o e hb' => kk b o (fun q => hb' (q ▸ .head _)) e, fun _ h => .inl h⟩

noncomputable def tyName : PyData → String
  | .none => "NoneType"
  | .bool _ => "bool"
  | .int _ => "int"
  | .str _ => "str"
  | .list _ => "list"
  | .tuple _ => "tuple"
  | .dict _ => "dict"
noncomputable def isT (T : String) (x : PyData) : Bool := tyName x == T || (tyName x == "bool" && T == "int")
noncomputable def instD : PyData → Bool
  | .dict kvs => !plainK kvs
  | _ => false
noncomputable def isTo (T : String) (x : PyData) : Option V := if instD x = true then none else some ⟨.bool (isT T x), .d⟩
theorem isTo_int {T : String} {i : Int} : isTo T (.int i) = some ⟨.bool (isT T (.int i)), .d⟩ := rfl
theorem isTo_str {T : String} {x : Str} : isTo T (.str x) = some ⟨.bool (isT T (.str x)), .d⟩ := rfl
theorem isTo_list {T : String} {xs : List PyData} : isTo T (.list xs) = some ⟨.bool (isT T (.list xs)), .d⟩ := rfl
structure TyOk (T : String) : Prop where
  ty : typeOf (.type T) = pure (.type "type")
  sub : ∀ x : PyData, isSubtype (.type (tyName x)) (.type T) = pure (isT T x)
theorem TyOk.of {T : String} (ty : typeOf (.type T) = pure (.type "type")) (h1 : isSubtype (.type "NoneType") (.type T) = pure (isT T .none)) (h2 : isSubtype (.type "bool") (.type T) = pure (isT T (.bool true)))
    (h3 : isSubtype (.type "int") (.type T) = pure (isT T (.int 0))) (h4 : isSubtype (.type "str") (.type T) = pure (isT T (.str Str.empty))) (h5 : isSubtype (.type "list") (.type T) = pure (isT T (.list []))) (h6 : isSubtype (.type "tuple") (.type T) = pure (isT T (.tuple [])))
    (h7 : isSubtype (.type "dict") (.type T) = pure (isT T (.dict []))) : TyOk T := by
  refine ⟨ty, fun x => ?_⟩
  cases x <;> assumption
theorem tyOk_int : TyOk "int" := by
  refine .of ?_ ?_ ?_ ?_ ?_ ?_ ?_ ?_ <;> first | kernel_rfl | (rw [isSubtype_type]; kernel_rfl)
theorem tyOk_bool : TyOk "bool" := by
  refine .of ?_ ?_ ?_ ?_ ?_ ?_ ?_ ?_ <;> first | kernel_rfl | (rw [isSubtype_type]; kernel_rfl)
theorem tyOk_str : TyOk "str" := by
  refine .of ?_ ?_ ?_ ?_ ?_ ?_ ?_ ?_ <;> first | kernel_rfl | (rw [isSubtype_type]; kernel_rfl)
theorem tyOk_list : TyOk "list" := by
  refine .of ?_ ?_ ?_ ?_ ?_ ?_ ?_ ?_ <;> first | kernel_rfl | (rw [isSubtype_type]; kernel_rfl)
theorem isT_ne {T : String} {x : PyData} (h : isT T x = false) : (Value.type (tyName x) == Value.type T) = false := by
  cases e : (Value.type (tyName x) == Value.type T) with
  | false => rfl
  | true =>
    have := eq_of_beq e
    cases this
    simp [isT] at h
theorem isinst_ok {A : Around} {s : Shared} {E : Value → Shared → Prop} {Q : Value → Shared → Prop} {T : String} {x : PyData} {u : Value} {as : List Addr} (hT : TyOk T) (r : RD prog w Hz s.heap u x as) (hi : instD x = false)
    (h : ∀ s', Keeps s s' → Q (.bool (isT T x)) s') : wpAny (model prog w) A (call (.builtin "isinstance") [u, .type T]) Q E s := by
  have hsub := hT.sub x
  cases e : isT T x with
  | true =>
    rw [e] at hsub h
    have hx : s.TypeIs u (tyName x) := by
      cases r with
      | none => rfl
      | bool => rfl
      | int => rfl
      | str => rfl
      | list a _ => exact ⟨_, a, rfl⟩
      | tuple a _ _ => exact ⟨_, a, rfl⟩
      | dict a _ _ _ => exact a.typeIs
      | val _ => cases hi
      | store _ _ => cases hi
      | inst _ _ _ _ _ => cases hi
    exact call_isinstance (isinstance_true hT.ty hsub) ⟨hx, h s (keeps_refl s)⟩
  | false =>
    rw [e] at hsub h
    have hne := isT_ne e
    have hq := h _ (keeps_toks s (s.toks + 1))
    cases r with
    | none => exact call_isinstance (isinstance_false_none hne hT.ty hsub) hq
    | bool b => exact call_isinstance (isinstance_false_bool hne hT.ty hsub) hq
    | int i t => exact call_isinstance (isinstance_false_int hne hT.ty hsub) hq
    | str x t => exact call_isinstance (isinstance_false_str hne hT.ty hsub) hq
    | list a _ => exact call_isinstance (isinstance_false_list hne hT.ty hsub) ⟨⟨_, a, rfl⟩, hq⟩
    | tuple a _ _ => exact call_isinstance (isinstance_false_tuple hne hT.ty hsub) ⟨⟨_, a, rfl⟩, hq⟩
    | dict a _ _ _ => exact call_isinstance (isinstance_false_dict hne hT.ty hsub) ⟨a.typeIs, hq⟩
    | val _ => cases hi
    | store _ _ => cases hi
    | inst _ _ _ _ _ => cases hi
theorem Ev.isinst {e : Expr} {T : String} {np tp pos : Pos} {m : Rho → Option V} (hT : TyOk T) (hx : isGlob sc "isinstance" = true) (hg : GName hb "isinstance" (.builtin "isinstance")) (hx' : isGlob sc T = true) (hg' : GName hb T (.type T)) (h : Ev prog w hb n sc e m)
    (he : ∀ env, starEach [e, .Name (Str.ofString T) tp] env = [(false, eval e env), (false, eval (.Name (Str.ofString T) tp) env)]) :
    Ev prog w hb n sc (.Call (.Name (Str.ofString "isinstance") np) [e, .Name (Str.ofString T) tp] [] pos) (fun ρ => (m ρ).bind fun v => isTo T v.x) := by
  intro A Hz env s₀ X C ρ O s v Q E hs hA I
  refine bindI fun v hv hm hQ => ?_
  unfold isTo at hm
  split at hm
  · cases hm
  rename_i hin
  (have e := si hm; subst e; clear hm)
  show wpAny _ _ (eval (.Name (Str.ofString "isinstance") np) env >>= fun f => callWith pos f [] (backTo pos (starEach [e, .Name (Str.ofString T) tp] env)) []) _ _ s
  refine wpAny_bind (eval_glob I (by rw [hs]; exact hx) hg ?_)
  rw [he]
  refine callWith_builtin rfl (evalArgs_plain (spliced_cons (h hs hA I hv fun u s₁ k₁ r₁ => ?_)))
  obtain ⟨as, rd, c, _⟩ := r₁
  refine spliced_cons (eval_glob (I.grow k₁) (by rw [hs]; exact hx') hg' (spliced_nil ?_))
  exact isinst_ok hT rd (by simpa using hin) fun s' k => hQ _ _ (keeps_trans k₁ k) Rep.bool

noncomputable def strsOf : List PyData → Option (List Str)
  | [] => some []
  | .str x :: xs => (strsOf xs).map (x :: ·)
  | _ :: _ => none
noncomputable def aJoin (sep : Str) (xs : List PyData) : Option PyData :=
  (strsOf xs).bind fun ts => if JoinOk sep ts = true ∧ wf (.str (Txt.join sep ts)) = true then some (.str (Txt.join sep ts)) else none
theorem strsOf_cons {x : PyData} {xs : List PyData} {ts : List Str} (h : strsOf (x :: xs) = some ts) : ∃ s ts', x = .str s ∧ strsOf xs = some ts' ∧ s :: ts' = ts := by
  cases x with
  | str s => obtain ⟨ts', h1, h2⟩ := Option.map_eq_some_iff.mp h; exact ⟨s, ts', rfl, h1, h2⟩
  | _ => exact no h
theorem RDs.strs {h : Heap} {vs : List Value} {xs : List PyData} {as : List Addr} {ts : List Str} (r : RDs prog w Hz h vs xs as) (e : strsOf xs = some ts) : ∃ l, vs = strValues l ∧ l.map (·.1) = ts := by
  refine RDs.ind (R := fun vs xs _ => ∀ ts, strsOf xs = some ts → ∃ l, vs = strValues l ∧ l.map (·.1) = ts) (fun ts e => ?_) (fun a _ r ts e => ?_) r ts e
  · (have e := si e; subst e; clear e); exact ⟨[], rfl, rfl⟩
  · obtain ⟨s, ts', rfl, h1, rfl⟩ := strsOf_cons e
    induction a.strI with | mk t => ?_
    obtain ⟨l, e1, e2⟩ := r ts' h1
    exact ⟨(s, t) :: l, by rw [e1]; rfl, by rw [← e2]; rfl⟩
theorem Ev.join {sep : Str} {k : Nat} {kp ap pos : Pos} {e : Expr} {m : Rho → Option V} (h : Ev prog w hb n sc e m) (hl : (ap.endLine == pos.line) = true) (he : ∀ env, starEach [e] env = [(false, eval e env)]) :
    Ev prog w hb n sc (.Call (.Attribute (.Constant (.str sep) k kp) (Str.ofString "join") ap) [e] [] pos) (fun ρ => (m ρ).bind fun v => (match v.x with | .list xs => aJoin sep xs | _ => none).map fun y => ⟨y, .d⟩) := by
  intro A Hz env s₀ X C ρ O s v Q E hs hA I
  refine bindI fun a ha hm hQ => ?_
  induction mapE hm with | mk y hy => ?_
  refine wpAny_Call_method rfl (by rw [he]; rfl) hl F.plainAttrs_str F.slot_str_join F.type_str_join ?_
  refine wpAny_mono (wpAny_Constant_str (x := sep) (Q := fun u s' => ∃ t, u = .str sep t ∧ Keeps s s') ⟨_, rfl, keeps_toks s _⟩) (fun u s₁ hu => ?_) fun _ _ e => e
  · obtain ⟨t, rfl, k₁⟩ := hu
    refine ⟨typeIs_str _ _ _, (fun _ e => nomatch e), ?_⟩
    rw [he]
    refine callWith_builtin rfl (evalArgs_plain (spliced_cons (h hs hA (I.grow k₁) ha fun u s₂ k₂ r₂ => spliced_nil ?_)))
    obtain ⟨as, rd, c, _⟩ := r₂
    split at hy
    · rename_i xs hx
      rw [hx] at rd
      obtain ⟨ts, h1, h2⟩ := bindE hy
      split at h2
      · rename_i hok
        (have e := si h2; subst e; clear h2)
        obtain ⟨_, _, _, _, q1, q2, a, r⟩ := rd.list_inv
        cases q1; cases q2
        · skip
          obtain ⟨l, rfl, e2⟩ := r.strs h1
          exact SC.join ⟨_, a, rfl, _, rfl⟩ e2 hok.1 fun t' k => hQ _ _ (keeps_trans k₁ (keeps_trans k₂ (keeps_toks _ _))) (Rep.str hok.2)
      · exact no h2
    · exact no hy

noncomputable def fnB (p : Program) (i : Nat) : List Stmt := match p.main.body[i]? with
  | some (.FunctionDef _ _ b _ _ _ _ _ _ _) => b
  | _ => []
noncomputable def fnS (p : Program) (i : Nat) : Scope := match p.main.body[i]? with
  | some (.FunctionDef _ _ _ _ _ _ s _ _ _) => s
  | _ => default
noncomputable def DefG (prog : Program) (w : World) (hb : Heap) (n : Nat) (x : String) (m : List PyData → Option PyData) : Prop :=
  ∃ a o fd, GName hb x (.ref a) ∧ hb.get? a = some o ∧ o.data = .func fd ∧ Fn prog w hb n a m
noncomputable def DefAt (hb : Heap) (x : String) (sc : Scope) (ps : List String) (body : List Stmt) : Prop := ∃ a, GName hb x (.ref a) ∧ DefOk hb a sc ps body
theorem Fn.mono {f : Addr} {m : List PyData → Option PyData} {k : Nat} (h : Fn prog w hb k f m) (hk : k ≤ n) : Fn prog w hb n f m := by
  intro A Hz s us xs as y Q E hA b rd hw hm hQ
  exact h (hA.mono hk) b rd hw hm hQ
theorem DefG.of {x : String} {ps : List String} {body : List Stmt} {m : Rho → Option Out} (D : DefAt hb x sc ps body) (h : St prog w hb n sc body m) (spec : List PyData → Option PyData) (hm : ∀ xs y, spec xs = some y → fnD ps m xs = some y) :
    DefG prog w hb (n + 1) x spec := by
  obtain ⟨a, g, D⟩ := D
  obtain ⟨fo, fd, args, ho, hd, _⟩ := D.there
  refine ⟨a, fo, fd, g, ho, hd, ?_⟩
  intro A Hz s us xs as y Q E hA b rd hw hy hQ
  exact Fn.def D h hA b rd hw (hm xs y hy) hQ
theorem Ev.def {x : String} {k : Nat} {es : List Expr} {np pos : Pos} {ms : Rho → Option (List V)} {m : List PyData → Option PyData} (h : DefG prog w hb k x m) (hes : Evs prog w hb n sc es ms) (hx : isGlob sc x = true) (hk : k ≤ n)
    (hstar : ∀ env : Env, (backTo pos (starEach es env)).any (·.1) = false) :
    Ev prog w hb n sc (.Call (.Name (Str.ofString x) np) es [] pos) (fun ρ => (ms ρ).bind fun vs => (m (vs.map (·.x))).map fun y => ⟨y, .d⟩) := by
  obtain ⟨a, o, fd, g, ho, hd, hf⟩ := h
  exact Ev.fn hx g ho hd hes (hf.mono hk) hstar
structure Bui (hb : Heap) : Prop where
  len : GName hb "len" (.builtin "len")
  isinstance : GName hb "isinstance" (.builtin "isinstance")
  range : GName hb "range" (.type "range")
  int : GName hb "int" (.type "int")
  bool : GName hb "bool" (.type "bool")
  str : GName hb "str" (.type "str")
  list : GName hb "list" (.type "list")
  tuple : GName hb "tuple" (.type "tuple")
theorem Ev.len {es : List Expr} {np pos : Pos} {ms : Rho → Option (List V)} (B : Bui hb) (hes : Evs prog w hb n sc es ms) (hx : isGlob sc "len" = true)
    (hstar : ∀ env : Env, (backTo pos (starEach es env)).any (·.1) = false) :
    Ev prog w hb n sc (.Call (.Name (Str.ofString "len") np) es [] pos) (fun ρ => (ms ρ).bind fun vs => match vs with | [v] => (aLen v.x).map fun y => ⟨y, .d⟩ | _ => none) :=
  Ev.call hx B.len (.inl ⟨_, rfl⟩) hes CallOk.len hstar
theorem Ev.listOf {es : List Expr} {np pos : Pos} {ms : Rho → Option (List V)} (B : Bui hb) (hes : Evs prog w hb n sc es ms) (hx : isGlob sc "list" = true)
    (hstar : ∀ env : Env, (backTo pos (starEach es env)).any (·.1) = false) :
    Ev prog w hb n sc (.Call (.Name (Str.ofString "list") np) es [] pos) (fun ρ => (ms ρ).bind fun vs => match vs with | [v] => (match v.x with | .list xs => some (V.newL xs v.fl) | .tuple xs => some (V.newL xs v.fl) | _ => none) | _ => none) :=
  Ev.call hx B.list (.inr (.inl ⟨_, rfl⟩)) hes CallOk.list hstar
theorem Ev.intOf {es : List Expr} {np pos : Pos} {ms : Rho → Option (List V)} (B : Bui hb) (hes : Evs prog w hb n sc es ms) (hx : isGlob sc "int" = true)
    (hstar : ∀ env : Env, (backTo pos (starEach es env)).any (·.1) = false) :
    Ev prog w hb n sc (.Call (.Name (Str.ofString "int") np) es [] pos) (fun ρ => (ms ρ).bind fun vs => match vs with | [v] => (match v.x with | .bool b => some ⟨.int (if b then 1 else 0), .d⟩ | _ => none) | _ => none) :=
  Ev.call hx B.int (.inr (.inl ⟨_, rfl⟩)) hes CallOk.int hstar
theorem Ev.v {x : String} {pos : Pos} (hv : isVar sc x = true := by decide +kernel) : Ev prog w hb n sc (.Name (Str.ofString x) pos) (fun ρ => (ρ x).bind rdVar) := Ev.var hv
theorem Ev.s {x : Str} {k : Nat} {pos : Pos} (hx : wf (.str x) = true := by decide +kernel) : Ev prog w hb n sc (.Constant (.str x) k pos) (fun _ => some ⟨.str x, .d⟩) := Ev.cstr hx
theorem S1.assignCompC {x : String} {elt tgt iter : Expr} {ifs : List Expr} {scope : Scope} {p cpos pos : Pos} {locs : List String} {mi : Rho → Option (List PyData × Fl)} {bind : V → Rho → Option Rho} {mt : Rho → Option Bool} {me : Rho → Option V} (ok : compOk scope sc locs = true)
    (hi : It prog w hb n sc tgt iter mi) (ht : TgL prog w hb (relS scope sc) locs tgt bind) (hif : Ifs prog w hb n (relS scope sc) ifs mt) (he : Ev prog w hb n (relS scope sc) elt me) (hsw : swapB sc scope x p.line cpos.line = false) (hk : sc.kind = .function) (hv : isVar sc x = true) :
    S1 prog w hb n sc (.Assign [.Name (Str.ofString x) p] (.ListComp elt [⟨tgt, iter, ifs, 0⟩] scope cpos) pos) (fun ρ => (compV mi locs bind mt me ρ).map fun ys => .next (ρ.set x (.val ⟨.list ys, .d⟩))) := by
  have h := S1.assign (x := x) (p := p) (pos := pos) (Ev.comp (pos := cpos) ok hi ht hif he) hv (fun env h => by rw [swaps_eq h hk, hsw])
  intro A Hz env s₀ X C ρ O s r Q E hs hA I hm hQ
  induction mapE hm with | mk ys hys => ?_
  exact h hs hA I (by dsimp only; rw [hys]; rfl) hQ
end

section

theorem small_of {a : Int} (h1 : -(2 ^ 64) < a) (h2 : a < 2 ^ 64) : smallInt a = true := by
  unfold smallInt; exact decide_eq_true (intBits_le_64 h1 h2)
noncomputable def S (l : List Nat) : Str := ⟨l.toArray⟩
theorem S_length (l : List Nat) : (S l).length = l.length := by simp [S, Str.length]
theorem S_append (a b : List Nat) : S a ++ S b = S (a ++ b) := by
  show Str.append _ _ = _; simp [S, Str.append]
theorem S_inj {a b : List Nat} (h : S a = S b) : a = b := by
  have := congrArg Str.cps h
  simpa [S] using this
theorem S_eq {a b : List Nat} : S a = S b ↔ a = b := ⟨S_inj, fun h => by rw [h]⟩
theorem S_wf {l : List Nat} (h1 : l.length ≤ sizeLine) (h2 : ∀ c ∈ l, c < 0x110000) : wf (.str (S l)) = true := by
  rw [wf_str, S_length]
  refine ⟨?_, h1⟩
  unfold PyData.strOk S
  rw [Array.all_eq_true']
  intro c hc
  simpa using h2 c (by simpa using hc)
theorem glue_empty : ∀ ts : List (List Nat), Txt.join Str.empty (ts.map S) = S ts.flatten := by
  intro ts
  show Builtin.Str.glued Str.empty (ts.map S) = _
  rw [StrLaws.glued_eq_join]
  induction ts with
  | nil => rfl
  | cons a ts ih =>
    induction ts with
    | nil => simp [Str.join]
    | cons b ts =>
      show S a ++ Str.empty ++ Str.join Str.empty ((b :: ts).map S) = _
      rw [ih, show Str.empty = S [] from rfl, S_append, S_append]; simp
theorem strsOf_map : ∀ ts : List Str, strsOf (ts.map .str) = some ts
  | [] => rfl
  | t :: ts => by simp [strsOf, strsOf_map ts]
theorem join_ok {ts : List (List Nat)} (h1 : ts.flatten.length ≤ 1000) (h2 : ts.length ≤ 1000) (h3 : ∀ t ∈ ts, ∀ c ∈ t, c < 0x110000) : aJoin Str.empty (ts.map fun t => .str (S t)) = some (.str (S ts.flatten)) := by
  have e : (ts.map fun t => PyData.str (S t)) = (ts.map S).map .str := by simp
  unfold aJoin
  rw [e, strsOf_map]
  simp only [Option.bind_some]
  rw [glue_empty]
  refine if_pos ⟨?_, S_wf (Nat.le_trans h1 (by decide)) fun c hc => ?_⟩
  · have hs : ((ts.map S).map (·.length)).sum = ts.flatten.length := by
      rw [List.length_flatten, List.map_map]
      exact congrArg _ (List.map_congr_left fun t _ => S_length t)
    unfold JoinOk Builtin.Str.tooLong
    rw [StrLaws.joinTotal, hs]
    have hz : Str.empty.length = 0 := rfl
    have hl : (1000 : Nat) ≤ sizeLine := by decide
    rw [hz, Nat.mul_zero, Nat.add_zero, Bool.not_eq_true', decide_eq_false_iff_not]
    lia
  · obtain ⟨t, ht, hc⟩ := List.mem_flatten.mp hc
    exact h3 t ht c hc
theorem pick_run {α : Type} (xs : List α) (a : Nat) : ∀ n, a + n ≤ xs.length → ((List.range n).map (fun k => a + k)).filterMap (xs[·]?) = (xs.drop a).take n
  | 0, _ => by simp
  | n + 1, h => by
    rw [List.range_succ, List.map_append, List.filterMap_append, pick_run xs a n (by lia), List.take_add_one]
    congr 1
    rw [List.getElem?_drop, List.map_cons, List.map_nil, List.filterMap_cons, List.filterMap_nil]
    rw [List.getElem?_eq_getElem (by lia)]; rfl
theorem pick_range {α : Type} (xs : List α) (a b : Nat) (hb : b ≤ xs.length) : ((List.range (b - a)).map (fun k => a + k)).filterMap (xs[·]?) = (xs.take b).drop a := by
  rw [List.drop_take]
  by_cases h : a ≤ b
  · exact pick_run xs a (b - a) (by lia)
  · rw [show b - a = 0 by lia]; simp
theorem sliceRange_one (a b : Nat) : sliceRange (a : Int) (b : Int) 1 = (List.range (b - a)).map fun k => a + k := by
  unfold sliceRange
  simp only [show (1 : Int) > 0 by decide, if_true]
  split
  · have : ((b : Int) - a + 1 - 1) / 1 = ((b - a : Nat) : Int) := by rw [Int.ediv_one]; lia
    rw [this, Int.toNat_natCast]
    exact List.map_congr_left fun k _ => by lia
  · have : b - a = 0 := by lia
    rw [this]; rfl
noncomputable def clipLo (v : Option Int) (n : Nat) : Nat := match v with
  | none => 0
  | some i => if i < 0 then (i + n).toNat else min i.toNat n
noncomputable def clipHi (v : Option Int) (n : Nat) : Nat := match v with
  | none => n
  | some i => if i < 0 then (i + n).toNat else min i.toNat n
theorem clipHi_le (v : Option Int) (n : Nat) : clipHi v n ≤ n := by
  unfold clipHi; split
  · exact Nat.le_refl _
  · split <;> lia
theorem clipLo_le (v : Option Int) (n : Nat) : clipLo v n ≤ n := by
  unfold clipLo; split
  · exact Nat.zero_le _
  · split <;> lia
theorem clip_neg {i : Int} {n : Nat} (h : i < 0) : max 0 (min (i + n) n) = (((i + n).toNat : Nat) : Int) := by
  rw [Int.min_eq_left (by lia), Int.toNat_eq_max, Int.max_comm]
theorem clip_pos {i : Int} {n : Nat} (h : ¬ i < 0) : max 0 (min i n) = ((min i.toNat n : Nat) : Int) := by
  have h' : 0 ≤ i := by lia
  rw [Int.max_eq_right (Int.le_min.mpr ⟨h', Int.natCast_nonneg _⟩)]
  rcases Int.le_total i n with q | q
  · rw [Int.min_eq_left q, Nat.min_eq_left (Int.toNat_le.mpr q), Int.toNat_of_nonneg h']
  · rw [Int.min_eq_right q, Nat.min_eq_right ((Int.le_toNat h').mpr q)]
theorem sliceIdx_eq (lo hi : Option Int) (n : Nat) : sliceIdx lo hi none n = (List.range (clipHi hi n - clipLo lo n)).map fun k => clipLo lo n + k := by
  rw [← sliceRange_one]
  unfold sliceIdx sliceBounds
  simp only [Option.getD_none, show (1 : Int) > 0 by decide, if_true]
  congr 1
  · cases lo with
    | none => rfl
    | some i =>
      simp only [clipLo]
      split
      · exact clip_neg ‹_›
      · exact clip_pos ‹_›
  · cases hi with
    | none => rfl
    | some i =>
      simp only [clipHi]
      split
      · exact clip_neg ‹_›
      · exact clip_pos ‹_›
theorem slice_list (lo hi : Option Int) (xs : List PyData) : aSlice lo hi none (.list xs) = some (.list ((xs.take (clipHi hi xs.length)).drop (clipLo lo xs.length))) := by
  show (if (none : Option Int) = some 0 then none else some (PyData.list ((sliceIdx lo hi none xs.length).filterMap (xs[·]?)))) = _
  rw [if_neg (by simp), sliceIdx_eq, pick_range _ _ _ (clipHi_le _ _)]
theorem strSlice_eq (lo hi : Option Int) (n : Nat) : Builtin.Str.strSliceIndices lo hi 1 n = (List.range (clipHi hi n - clipLo lo n)).map fun k => clipLo lo n + k := by
  rw [← sliceRange_one]
  unfold Builtin.Str.strSliceIndices
  simp only [show (1 : Int) > 0 by decide, if_true]
  congr 1
  · cases lo with
    | none => rfl
    | some i =>
      simp only [clipLo]
      split
      · exact clip_neg ‹_›
      · exact clip_pos ‹_›
  · cases hi with
    | none => rfl
    | some i =>
      simp only [clipHi]
      split
      · exact clip_neg ‹_›
      · exact clip_pos ‹_›
theorem slice_str (lo hi : Option Int) (l : List Nat) : aSlice lo hi none (.str (S l)) = some (.str (S ((l.take (clipHi hi l.length)).drop (clipLo lo l.length)))) := by
  unfold aSlice
  simp only [Option.getD_none, show ((1 : Int) = 0) = False by simp, if_false]
  rw [strSlice_eq, S_length]
  congr 2
  split
  · rename_i h
    have h2 := h.2
    simp at h2
    have := clipHi_le hi l.length
    have := clipLo_le lo l.length
    rw [show clipLo lo l.length = 0 by lia, show clipHi hi l.length = l.length by lia]; simp
  · have e := pick_range l (clipLo lo l.length) (clipHi hi l.length) (clipHi_le _ _)
    rw [← e]; unfold S; simp
noncomputable def cstep (bind : V → Rho → Option Rho) (test : Rho → Option Bool) (elt : Rho → Option V) (ρ : Rho) (x : PyData) : Option (Option PyData) :=
  (bind (V.fix x .s) ρ).bind fun ρ₁ => (test ρ₁).bind fun c => if c then (elt ρ₁).bind fun v => if v.fl = .d then some (some v.x) else none else some none
theorem compD_eq {bind : V → Rho → Option Rho} {test : Rho → Option Bool} {elt : Rho → Option V} {ρ : Rho} (f : PyData → Option PyData) : ∀ {xs : List PyData}, (∀ x ∈ xs, cstep bind test elt ρ x = some (f x)) → compD bind test elt ρ xs = some (xs.filterMap f)
  | [], _ => rfl
  | x :: xs, h => by
    have h1 := h x (.head _)
    have ih := compD_eq f fun y hy => h y (.tail _ hy)
    unfold cstep at h1
    obtain ⟨ρ₁, e1, h1⟩ := bindE h1
    obtain ⟨c, e2, h1⟩ := bindE h1
    unfold compD
    rw [e1]
    simp only [Option.bind_some, e2]
    induction c with
    | false =>
      simp only [Bool.false_eq_true, if_false] at h1 ⊢
      rw [List.filterMap_cons, ← (Option.some.inj h1), ih]
    | true =>
      simp only [if_true] at h1 ⊢
      obtain ⟨v, e3, h1⟩ := bindE h1
      rw [e3]
      simp only [Option.bind_some]
      split at h1
      · rename_i hf
        rw [if_pos hf, ih, List.filterMap_cons, ← Option.some.inj h1]; rfl
      · exact no h1
theorem forD_inv {bind : V → Rho → Option Rho} {body : Rho → Option Out} {f : Fl} {xs : List PyData} (P : Nat → Rho → Prop) : ∀ {ρ : Rho}, P 0 ρ →
    (∀ i x ρ, xs[i]? = some x → P i ρ → ∃ ρ₁ ρ', bind (V.fix x f) ρ = some ρ₁ ∧ body ρ₁ = some (.next ρ') ∧ P (i + 1) ρ') → ∃ ρ', forD bind body f xs ρ = some (.next ρ') ∧ P xs.length ρ' := by
  induction xs generalizing P with
  | nil => exact fun {ρ} h _ => ⟨ρ, rfl, h⟩
  | cons x xs ih =>
    intro ρ h0 hs
    obtain ⟨ρ₁, ρ₂, e1, e2, h1⟩ := hs 0 x ρ rfl h0
    obtain ⟨ρ', e3, h3⟩ := ih (fun i => P (i + 1)) h1 fun i y ρ hy hp => hs (i + 1) y ρ (by simpa using hy) hp
    refine ⟨ρ', ?_, h3⟩
    unfold forD
    rw [e1]; simp only [Option.bind_some, e2]; exact e3
theorem whileD_inv {t : Rho → Option Bool} {b : Rho → Option Out} (P : Nat → Rho → Prop) (k : Nat) : ∀ {ρ : Rho} {fuel : Nat}, P 0 ρ → k < fuel →
    (∀ i ρ, i < k → P i ρ → ∃ ρ', t ρ = some true ∧ b ρ = some (.next ρ') ∧ P (i + 1) ρ') → (∀ ρ, P k ρ → t ρ = some false) → ∃ ρ', whileD t b fuel ρ = some (.next ρ') ∧ P k ρ' := by
  induction k generalizing P with
  | zero =>
    intro ρ fuel h0 hf _ he
    obtain ⟨fuel, rfl⟩ := Nat.exists_eq_succ_of_ne_zero (by lia : fuel ≠ 0)
    refine ⟨ρ, ?_, h0⟩
    unfold whileD
    rw [he ρ h0]; rfl
  | succ k ih =>
    intro ρ fuel h0 hf hs he
    obtain ⟨fuel, rfl⟩ := Nat.exists_eq_succ_of_ne_zero (by lia : fuel ≠ 0)
    obtain ⟨ρ₁, e1, e2, h1⟩ := hs 0 ρ (by lia) h0
    obtain ⟨ρ', e3, h3⟩ := ih (fun i => P (i + 1)) h1 (by lia : k < fuel) (fun i ρ hi hp => hs (i + 1) ρ (by lia) hp) he
    refine ⟨ρ', ?_, h3⟩
    unfold whileD
    rw [e1]; simp only [Option.bind_some, if_true, e2]; exact e3
theorem rangeOf_get {k : Int} {i : Nat} {x : PyData} (h : (rangeOf k)[i]? = some x) : (i : Int) < k ∧ x = .int i := by
  unfold rangeOf at h
  rw [List.getElem?_map] at h
  induction mapE h with | mk j e1 => ?_
  have := List.getElem?_eq_some_iff.mp e1
  obtain ⟨h1, h2⟩ := this
  simp at h1 h2
  subst h2
  exact ⟨by lia, rfl⟩
theorem rangeOf_len (k : Int) : (rangeOf k).length = k.toNat := by simp [rangeOf]
theorem rangeOf_mem {k : Int} {x : PyData} (h : x ∈ rangeOf k) : ∃ i : Nat, (i : Int) < k ∧ x = .int i := by
  obtain ⟨i, e⟩ := List.getElem?_of_mem h
  obtain ⟨h1, h2⟩ := rangeOf_get e
  exact ⟨i, h1, h2⟩
theorem comp_range {bind : V → Rho → Option Rho} {test : Rho → Option Bool} {elt : Rho → Option V} {ρ : Rho} {k : Int} (g : Nat → PyData) (h : ∀ i : Nat, (i : Int) < k → cstep bind test elt ρ (.int i) = some (some (g i))) :
    compD bind test elt ρ (rangeOf k) = some ((List.range k.toNat).map g) := by
  rw [compD_eq (fun x => match x with | .int i => some (g i.toNat) | _ => none) fun x hx => ?_]
  · unfold rangeOf
    rw [List.filterMap_map]
    congr 1
    generalize List.range k.toNat = l
    induction l with
    | nil => rfl
    | cons a l ih => rw [List.filterMap_cons]; simp only [Function.comp, Int.toNat_natCast, List.map_cons]; rw [← ih]
  · obtain ⟨i, hi, rfl⟩ := rangeOf_mem hx
    simpa using h i hi
theorem fdiv_pos {a b : Int} (h : 0 < b) : a.fdiv b = a / b := Int.fdiv_eq_ediv_of_nonneg a (Int.le_of_lt h)
theorem fmod_pos {a b : Int} (h : 0 < b) : a.fmod b = a % b := Int.fmod_eq_emod_of_nonneg a (Int.le_of_lt h)
end

section

section
variable {f g : Fl} {a b : Int} {x y : Str} {xs ys : List PyData} {ρ : Rho} {s t : String} {vv : VV} {v : V}
theorem e_add : aBinV .Add ⟨.int a, f⟩ ⟨.int b, g⟩ = some ⟨.int (a + b), .d⟩ := rfl
theorem e_sub : aBinV .Sub ⟨.int a, f⟩ ⟨.int b, g⟩ = some ⟨.int (a - b), .d⟩ := rfl
theorem e_mul (h : smallInt a = true ∨ smallInt b = true) : aBinV .Mult ⟨.int a, f⟩ ⟨.int b, g⟩ = some ⟨.int (a * b), .d⟩ := by
  have : aBin .Mult (.int a) (.int b) = some (.int (a * b)) := by show (if _ then _ else _) = _; rw [if_pos (by simpa using h)]
  unfold aBinV; rw [this]; rfl
theorem e_mul_l (h1 : -18446744073709551616 < a) (h2 : a < 18446744073709551616) : aBinV .Mult ⟨.int a, f⟩ ⟨.int b, g⟩ = some ⟨.int (a * b), .d⟩ := e_mul (.inl (small_of h1 h2))
theorem e_mul_r (h1 : -18446744073709551616 < b) (h2 : b < 18446744073709551616) : aBinV .Mult ⟨.int a, f⟩ ⟨.int b, g⟩ = some ⟨.int (a * b), .d⟩ := e_mul (.inr (small_of h1 h2))
theorem e_div (h : 0 < b) : aBinV .FloorDiv ⟨.int a, f⟩ ⟨.int b, g⟩ = some ⟨.int (a / b), .d⟩ := by
  have : aBin .FloorDiv (.int a) (.int b) = some (.int (a / b)) := by show Option.map PyData.int (if b = 0 then none else some (a.fdiv b)) = _; rw [if_neg (by lia), fdiv_pos h]; rfl
  unfold aBinV; rw [this]; rfl
theorem e_mod (h : 0 < b) : aBinV .Mod ⟨.int a, f⟩ ⟨.int b, g⟩ = some ⟨.int (a % b), .d⟩ := by
  have : aBin .Mod (.int a) (.int b) = some (.int (a % b)) := by show Option.map PyData.int (if b = 0 then none else some (a.fmod b)) = _; rw [if_neg (by lia), fmod_pos h]; rfl
  unfold aBinV; rw [this]; rfl
theorem e_adds (h : x.length + y.length ≤ sizeLine) : aBinV .Add ⟨.str x, f⟩ ⟨.str y, g⟩ = some ⟨.str (x ++ y), .d⟩ := by
  have : aBin .Add (.str x) (.str y) = some (.str (x ++ y)) := by show (if _ then _ else _) = _; rw [if_pos h]
  unfold aBinV; rw [this]; rfl
theorem e_addl (h : xs.length + ys.length ≤ sizeLine) : aBinV .Add ⟨.list xs, f⟩ ⟨.list ys, g⟩ = some (V.newL (xs ++ ys) (f.join g)) := by
  have : aBin .Add (.list xs) (.list ys) = some (.list (xs ++ ys)) := by show (if _ then _ else _) = _; rw [if_pos h]
  unfold aBinV; rw [this]; rfl
theorem e_set : (ρ.set s vv) t = bif t == s then some vv else ρ t := rfl
theorem e_rho_nil : rho0 [] [] t = none := rfl
theorem e_rho {ps : List String} {z : PyData} : rho0 (s :: ps) (z :: xs) t = bif t == s then some (.val (V.fix z .s)) else rho0 ps xs t := rfl
theorem e_fint : V.fix (.int a) f = ⟨.int a, .d⟩ := rfl
theorem e_fstr : V.fix (.str x) f = ⟨.str x, .d⟩ := rfl
theorem e_flist : V.fix (.list xs) f = ⟨.list xs, f⟩ := by simp [V.fix, flat]
theorem e_ftup (h : flats xs = true) : V.fix (.tuple xs) f = ⟨.tuple xs, .d⟩ := by simp [V.fix, flat, h]
theorem e_rv : rdVar (.val v) = some v := rfl
theorem e_rl : rdVar (.own (.lst xs)) = some ⟨.list xs, .t⟩ := rfl
theorem e_rd {kvs : List (Str × PyData)} : rdVar (.own (.dct kvs)) = some ⟨dictOf kvs, .t⟩ := rfl
theorem e_putd {z : PyData} : putV ρ s ⟨z, .d⟩ = some (.next (ρ.set s (.val ⟨z, .d⟩))) := rfl
theorem e_putRd {z : PyData} : putR s ⟨z, .d⟩ ρ = some (ρ.set s (.val ⟨z, .d⟩)) := rfl
theorem e_tup : tupOf ⟨.tuple xs, f⟩ = some (xs.map fun z => V.fix z f) := rfl
theorem e_putn : putRs [] [] ρ = some ρ := rfl
theorem e_putc {ns : List String} {vs : List V} : putRs (s :: ns) (v :: vs) ρ = (putR s v ρ).bind (putRs ns vs) := rfl
theorem e_thn {m : Rho → Option Out} : thenB m (.next ρ) = m ρ := rfl
theorem e_thr {m : Rho → Option Out} {z : PyData} : thenB m (.ret z) = some (.ret z) := rfl
theorem e_ret {x : PyData} : retV ⟨x, .d⟩ = some (.ret x) := rfl
theorem e_lt : aCmp .Lt (.int a) (.int b) = some (decide (a < b)) := rfl
theorem e_gt : aCmp .Gt (.int a) (.int b) = some (decide (a > b)) := rfl
theorem e_eqi : aCmp .Eq (.int a) (.int b) = some (a == b) := rfl
theorem e_nei : aCmp .NotEq (.int a) (.int b) = some (!(a == b)) := rfl
theorem e_eqs : aCmp .Eq (.str x) (.str y) = some (x == y) := rfl
theorem e_nes : aCmp .NotEq (.str x) (.str y) = some (!(x == y)) := rfl
theorem e_isnot {z : PyData} : aCmp .IsNot z .none = some (!isNone z) := rfl
theorem e_len_l : aLen (.list xs) = some (.int xs.length) := rfl
theorem e_len_s : aLen (.str x) = some (.int x.length) := rfl
theorem e_tb {c : Bool} : aTruth (.bool c) = some c := rfl
end
theorem e_inc {locs : List String} {ρ : Rho} {t : String} : inComp locs ρ t = bif memS locs t then none else (ρ t).bind fun vv => (rdVar vv).map fun v => .val (V.fix v.x .s) := rfl
theorem e_idx_s {l : List Nat} {k : Int} : aIdx (.str (S l)) (.int k) = (seqAt l k).map fun c => .str (S [c]) := by
  rfl
theorem e_idx_l {xs : List PyData} {k : Int} : aIdx (.list xs) (.int k) = seqAt xs k := rfl
theorem e_idx_t {xs : List PyData} {k : Int} : aIdx (.tuple xs) (.int k) = seqAt xs k := rfl
theorem seqAt_nat {α : Type} {xs : List α} {k : Int} (h : 0 ≤ k) : seqAt xs k = xs[k.toNat]? := if_pos h
theorem le_line {n : Nat} (h : n ≤ 1000) : n ≤ sizeLine := Nat.le_trans h (by decide)
theorem le_lineI {n : Int} (h : n ≤ 1000) : n ≤ (sizeLine : Int) := Int.le_trans h (by decide)
theorem rng_lo {k : Int} (h : 0 ≤ k) : -4611686018427387904 ≤ k := by lia
theorem fls_nil : flsOf [] = .d := rfl
theorem fls_d {x : PyData} {vs : List V} : flsOf (⟨x, .d⟩ :: vs) = flsOf vs := by
  show Fl.join .d (flsOf vs) = _
  cases flsOf vs <;> rfl
theorem newL_d {xs : List PyData} : V.newL xs .d = ⟨.list xs, .d⟩ := by unfold V.newL; split <;> rfl
theorem flat1 {α β : Type} (f : α → β) : ∀ l : List α, (l.map fun j => [f j]).flatten = l.map f
  | [] => rfl
  | a :: l => by rw [List.map_cons, List.flatten_cons, flat1 f l]; rfl
theorem e_sls {lo hi : Option Int} {l : List Nat} {f : Fl} : aSliceV lo hi none ⟨.str (S l), f⟩ = some ⟨.str (S ((l.take (clipHi hi l.length)).drop (clipLo lo l.length))), .d⟩ := by
  unfold aSliceV; rw [slice_str]; rfl
theorem e_sll {lo hi : Option Int} {l : List PyData} {f : Fl} : aSliceV lo hi none ⟨.list l, f⟩ = some (V.newL ((l.take (clipHi hi l.length)).drop (clipLo lo l.length)) f) := by
  unfold aSliceV; rw [slice_list]; rfl
theorem hi_some {i : Int} {n : Nat} (h : 0 ≤ i) (h' : i ≤ n) : clipHi (some i) n = i.toNat := by
  simp only [clipHi]; rw [if_neg (by lia)]; lia
theorem lo_some {i : Int} {n : Nat} (h : 0 ≤ i) (h' : i ≤ n) : clipLo (some i) n = i.toNat := by
  simp only [clipLo]; rw [if_neg (by lia)]; lia
theorem hi_none {n : Nat} : clipHi none n = n := rfl
theorem lo_none {n : Nat} : clipLo none n = 0 := rfl
theorem e_addS {a b : List Nat} {f g : Fl} (h : a.length + b.length ≤ 1000) : aBinV .Add ⟨.str (S a), f⟩ ⟨.str (S b), g⟩ = some ⟨.str (S (a ++ b)), .d⟩ := by
  rw [e_adds (by rw [S_length, S_length]; exact le_line h), S_append]
noncomputable def letters : List Nat := (List.range 26).map (97 + ·)
theorem letters_eq : Str.ofString "abcdefghijklmnopqrstuvwxyz" = S letters := by decide +kernel
theorem empty_eq : Str.ofString "" = Str.empty := by decide +kernel
theorem letters_at {i : Int} (h0 : 0 ≤ i) (h1 : i < 26) : seqAt letters i = some (97 + i.toNat) := by
  rw [seqAt_nat h0]; unfold letters
  rw [List.getElem?_map, List.getElem?_range (by lia)]; rfl
noncomputable def run (m : Rho → Option Out) (ρ : Rho) : Option Out := m ρ
noncomputable def tst (m : Rho → Option Bool) (ρ : Rho) : Option Bool := m ρ
theorem tst_eq {m : Rho → Option Bool} {ρ : Rho} : tst m ρ = m ρ := rfl
noncomputable def evl (m : Rho → Option V) (ρ : Rho) : Option V := m ρ
theorem evl_eq {m : Rho → Option V} {ρ : Rho} : evl m ρ = m ρ := rfl
noncomputable def itr (m : Rho → Option (List PyData × Fl)) (ρ : Rho) : Option (List PyData × Fl) := m ρ
theorem itr_eq {m : Rho → Option (List PyData × Fl)} {ρ : Rho} : itr m ρ = m ρ := rfl
theorem run_eq {m : Rho → Option Out} {ρ : Rho} : run m ρ = m ρ := rfl
theorem seq {x m' : Rho → Option Out} {ρ ρ₁ : Rho} {o : Out} (h : run x ρ = some (.next ρ₁)) (h' : run m' ρ₁ = some o) : run (fun ρ => (x ρ).bind (thenB m')) ρ = some o := by
  show (run x ρ).bind (thenB m') = _; rw [h]; exact h'
theorem seqRet {x m' : Rho → Option Out} {ρ : Rho} {y : PyData} (h : run x ρ = some (.ret y)) : run (fun ρ => (x ρ).bind (thenB m')) ρ = some (.ret y) := by
  show (run x ρ).bind (thenB m') = _; rw [h]; rfl
theorem fn_ret {ps : List String} {m : Rho → Option Out} {xs : List PyData} {y : PyData} (hl : xs.length = ps.length) (h : run m (rho0 ps xs) = some (.ret y)) : fnD ps m xs = some y := by
  unfold fnD; rw [if_pos hl, show m (rho0 ps xs) = some (.ret y) from h]; rfl
end

section
section
variable {x m' : Rho → Option Out} {ρ ρ₁ : Rho} {o : Out} {P Q : Rho → Prop}
theorem seqE (P : Rho → Prop) (h : ∃ ρ₁, run x ρ = some (.next ρ₁) ∧ P ρ₁) (h' : ∀ ρ₁, P ρ₁ → run m' ρ₁ = some o) : run (fun ρ => (x ρ).bind (thenB m')) ρ = some o := by
  obtain ⟨ρ₁, h, p⟩ := h; exact seq h (h' ρ₁ p)
theorem seqN (h : run x ρ = some (.next ρ₁)) (h' : ∃ ρ₂, run m' ρ₁ = some (.next ρ₂) ∧ Q ρ₂) : ∃ ρ₂, run (fun ρ => (x ρ).bind (thenB m')) ρ = some (.next ρ₂) ∧ Q ρ₂ := by
  obtain ⟨ρ₂, h', q⟩ := h'; exact ⟨ρ₂, seq h h', q⟩
theorem seqX (P : Rho → Prop) (h : ∃ ρ₁, run x ρ = some (.next ρ₁) ∧ P ρ₁) (h' : ∀ ρ₁, P ρ₁ → ∃ ρ₂, run m' ρ₁ = some (.next ρ₂) ∧ Q ρ₂) : ∃ ρ₂, run (fun ρ => (x ρ).bind (thenB m')) ρ = some (.next ρ₂) ∧ Q ρ₂ := by
  obtain ⟨ρ₁, h, p⟩ := h; exact seqN h (h' ρ₁ p)
theorem doneN (h : Q ρ) : ∃ ρ₂, run (fun ρ => some (.next ρ)) ρ = some (.next ρ₂) ∧ Q ρ₂ := ⟨ρ, rfl, h⟩
theorem forD_inv' {bind : V → Rho → Option Rho} {body : Rho → Option Out} {f : Fl} {xs : List PyData} (P : Nat → Rho → Prop) {ρ : Rho} (h0 : P 0 ρ)
    (hs : ∀ i x ρ, xs[i]? = some x → P i ρ → ∃ ρ₁, bind (V.fix x f) ρ = some ρ₁ ∧ ∃ ρ', run body ρ₁ = some (.next ρ') ∧ P (i + 1) ρ') : ∃ ρ', forD bind body f xs ρ = some (.next ρ') ∧ P xs.length ρ' :=
  forD_inv P h0 fun i x ρ hx hp => let ⟨a, b, c, d, e⟩ := hs i x ρ hx hp; ⟨a, c, b, d, e⟩
theorem for_run {mi : Rho → Option (List PyData × Fl)} {bind : V → Rho → Option Rho} {mb : Rho → Option Out} {ρ : Rho} (xs : List PyData) (f : Fl) (hi : itr mi ρ = some (xs, f)) (hf : f ≠ .t) (h : ∃ ρ', forD bind mb f xs ρ = some (.next ρ') ∧ Q ρ') :
    ∃ ρ', run (fun ρ => (mi ρ).bind fun v => if v.2 = .t then none else forD bind mb v.2 v.1 ρ) ρ = some (.next ρ') ∧ Q ρ' := by
  dsimp only [run]; rw [show mi ρ = _ from hi]; simp only [Option.bind_some, if_neg hf]; exact h
theorem ifR_yes {mt : Rho → Option Bool} {a b : Rho → Option Out} {o : Out} (ht : tst mt ρ = some true) (h : run a ρ = some o) : run (fun ρ => (mt ρ).bind fun c => if c then a ρ else b ρ) ρ = some o := by
  dsimp only [run]; rw [show mt ρ = _ from ht]; exact h
theorem ifR_no {mt : Rho → Option Bool} {a b : Rho → Option Out} {o : Out} (ht : tst mt ρ = some false) (h : run b ρ = some o) : run (fun ρ => (mt ρ).bind fun c => if c then a ρ else b ρ) ρ = some o := by
  dsimp only [run]; rw [show mt ρ = _ from ht]; exact h
theorem if_yes {mt : Rho → Option Bool} {a b : Rho → Option Out} (ht : tst mt ρ = some true) (h : ∃ ρ', run a ρ = some (.next ρ') ∧ Q ρ') : ∃ ρ', run (fun ρ => (mt ρ).bind fun c => if c then a ρ else b ρ) ρ = some (.next ρ') ∧ Q ρ' := by
  obtain ⟨ρ', h, q⟩ := h; exact ⟨ρ', ifR_yes ht h, q⟩
theorem if_no {mt : Rho → Option Bool} {a b : Rho → Option Out} (ht : tst mt ρ = some false) (h : ∃ ρ', run b ρ = some (.next ρ') ∧ Q ρ') : ∃ ρ', run (fun ρ => (mt ρ).bind fun c => if c then a ρ else b ρ) ρ = some (.next ρ') ∧ Q ρ' := by
  obtain ⟨ρ', h, q⟩ := h; exact ⟨ρ', ifR_no ht h, q⟩
theorem range_snoc {α : Type} (f : Nat → α) (n : Nat) : (List.range (n + 1)).map f = (List.range n).map f ++ [f n] := by rw [List.range_succ, List.map_append]; rfl
theorem map_range_get {α : Type} (f : Nat → α) {n i : Nat} (h : i < n) : ((List.range n).map f)[i]? = some (f i) := by rw [List.getElem?_map, List.getElem?_range h]; rfl
theorem fl_nil : flats [] = true := rfl
theorem fl_int {a : Int} {xs : List PyData} : flats (.int a :: xs) = flats xs := by simp [flats, flat]
theorem fl_str {a : Str} {xs : List PyData} : flats (.str a :: xs) = flats xs := by simp [flats, flat]
theorem fl_tup {ys xs : List PyData} : flats (.tuple ys :: xs) = (flats ys && flats xs) := by simp [flats, flat]
theorem ofS_beq (a b : String) : (Str.ofString a == Str.ofString b) = (a == b) := by
  rw [Bool.eq_iff_iff, beq_iff_eq, beq_iff_eq]
  exact ⟨ofString_inj, fun h => by rw [h]⟩
theorem fix_d {x : PyData} : V.fix x .d = ⟨x, .d⟩ := by unfold V.fix; split <;> rfl
section
variable {bind : V → Rho → Option Rho} {test : Rho → Option Bool} {elt : Rho → Option V} {ρ : Rho} {α : Type}
theorem compD_cons {y : PyData} {ys zs : List PyData} {r : Option PyData} (h : cstep bind test elt ρ y = some r) (h' : compD bind test elt ρ ys = some zs) : compD bind test elt ρ (y :: ys) = some (r.elim zs (fun z => z :: zs)) := by
  unfold cstep at h
  obtain ⟨ρ₁, e1, h⟩ := bindE h
  obtain ⟨c, e2, h⟩ := bindE h
  unfold compD
  rw [e1]
  simp only [Option.bind_some, e2]
  induction c with
  | false =>
    simp only [Bool.false_eq_true, if_false] at h ⊢
    rw [← (Option.some.inj h)]; exact h'
  | true =>
    simp only [if_true] at h ⊢
    obtain ⟨v, e3, h⟩ := bindE h
    rw [e3]
    simp only [Option.bind_some]
    split at h
    · rename_i hf
      rw [if_pos hf, h', ← Option.some.inj h]; rfl
    · exact no h
theorem comp_enc (enc : α → PyData) (f : α → Option PyData) : ∀ {xs : List α}, (∀ a ∈ xs, cstep bind test elt ρ (enc a) = some (f a)) → compD bind test elt ρ (xs.map enc) = some (xs.filterMap f)
  | [], _ => rfl
  | a :: xs, h => by
    rw [List.map_cons, compD_cons (h a (.head _)) (comp_enc enc f fun b hb => h b (.tail _ hb)), List.filterMap_cons]
    generalize f a = r
    cases r <;> rfl
theorem comp_map (enc g : α → PyData) {xs : List α} (h : ∀ a ∈ xs, cstep bind test elt ρ (enc a) = some (some (g a))) : compD bind test elt ρ (xs.map enc) = some (xs.map g) := by
  rw [comp_enc enc (fun a => some (g a)) h]; simp
end
end
end

section
mutual
theorem eqv_self : ∀ x : PyData, nd x = true → PyData.eqv x x = true
  | .none, _ => by simp [PyData.eqv]
  | .bool _, _ => by simp [PyData.eqv]
  | .int _, _ => by simp [PyData.eqv]
  | .str _, _ => by simp [PyData.eqv]
  | .list xs, h => by rw [PyData.eqv]; exact eqvs_self xs (by simpa [nd] using h)
  | .tuple xs, h => by rw [PyData.eqv]; exact eqvs_self xs (by simpa [nd] using h)
  | .dict _, h => by simp [nd] at h
theorem eqvs_self : ∀ xs : List PyData, nds xs = true → PyData.eqvAll xs xs = true
  | [], _ => by simp [PyData.eqvAll]
  | x :: xs, h => by
    simp only [nds, Bool.and_eq_true] at h
    simp [PyData.eqvAll, eqv_self x h.1, eqvs_self xs h.2]
end
noncomputable def plain (k : Nat) (x : PyData) : Prop := nd x = true ∧ x.depth ≤ k
theorem plain_mono {j k : Nat} {x : PyData} (h : plain j x) (hk : j ≤ k) : plain k x := ⟨h.1, Nat.le_trans h.2 hk⟩
theorem plain_int (b : Int) : plain 1 (.int b) := ⟨rfl, by simp [PyData.depth]⟩
theorem plain_str (b : Str) : plain 1 (.str b) := ⟨rfl, by simp [PyData.depth]⟩
theorem depthAll_le {k : Nat} : ∀ {xs : List PyData}, (∀ x ∈ xs, x.depth ≤ k) → PyData.depthAll xs ≤ k
  | [], _ => by simp [PyData.depthAll]
  | x :: xs, h => by
    have h1 := h x (.head _)
    have h2 := depthAll_le fun y hy => h y (.tail _ hy)
    simp only [PyData.depthAll]; lia
theorem plain_list {k : Nat} {xs : List PyData} (h : ∀ x ∈ xs, plain k x) : plain (k + 1) (.list xs) := by
  refine ⟨?_, ?_⟩
  · simp only [nd]; exact (nds_iff xs).mpr fun x hx => (h x hx).1
  · have := depthAll_le fun x hx => (h x hx).2
    simp only [PyData.depth]; lia
theorem plain_tuple {k : Nat} {xs : List PyData} (h : ∀ x ∈ xs, plain k x) : plain (k + 1) (.tuple xs) := by
  refine ⟨?_, ?_⟩
  · simp only [nd]; exact (nds_iff xs).mpr fun x hx => (h x hx).1
  · have := depthAll_le fun x hx => (h x hx).2
    simp only [PyData.depth]; lia
theorem e_ne {x y : PyData} (hx : plain 60 x) (hy : plain 60 y) : aCmp .NotEq x y = some (!PyData.eqv x y) := by
  have : (nd x && nd y && decide (min x.depth y.depth ≤ 60)) = true := by
    have := hx.2
    simp only [hx.1, hy.1, Bool.and_self, Bool.true_and, decide_eq_true_eq]; lia
  simp only [aCmp, cmpE, this, if_true, Option.map_some]
theorem e_eq {x y : PyData} (hx : plain 60 x) (hy : plain 60 y) : aCmp .Eq x y = some (PyData.eqv x y) := by
  have : (nd x && nd y && decide (min x.depth y.depth ≤ 60)) = true := by
    have := hx.2
    simp only [hx.1, hy.1, Bool.and_self, Bool.true_and, decide_eq_true_eq]; lia
  simp only [aCmp, cmpE, this, if_true]
theorem e_ne_self {x : PyData} (hx : plain 60 x) : aCmp .NotEq x x = some false := by rw [e_ne hx hx, eqv_self x hx.1]; rfl
theorem e_eq_self {x : PyData} (hx : plain 60 x) : aCmp .Eq x x = some true := by rw [e_eq hx hx, eqv_self x hx.1]
theorem whileD_inv' {t : Rho → Option Bool} {b : Rho → Option Out} (P : Nat → Rho → Prop) (k : Nat) {ρ : Rho} {fuel : Nat} (h0 : P 0 ρ) (hf : k < fuel)
    (hs : ∀ i ρ, i < k → P i ρ → tst t ρ = some true ∧ ∃ ρ', run b ρ = some (.next ρ') ∧ P (i + 1) ρ') (he : ∀ ρ, P k ρ → tst t ρ = some false) : ∃ ρ', run (whileD t b fuel) ρ = some (.next ρ') ∧ P k ρ' :=
  whileD_inv P k h0 hf (fun i ρ hi hp => let ⟨a, b, c, d⟩ := hs i ρ hi hp; ⟨b, a, c, d⟩) he
theorem know_nil {ρ : Rho} : ∀ p ∈ ([] : List (String × VV)), ρ p.1 = some p.2 := fun _ q => nomatch q
theorem know_cons {ρ : Rho} {x : String} {v : VV} {kv : List (String × VV)} (h : ρ x = some v) (h' : ∀ p ∈ kv, ρ p.1 = some p.2) : ∀ p ∈ (x, v) :: kv, ρ p.1 = some p.2 := fun p hp => by
  rcases List.mem_cons.mp hp with rfl | hp
  · exact h
  · exact h' p hp
noncomputable def know (kv : List (String × VV)) (ρ : Rho) : Rho := fun x => match kv.lookup x with
  | some v => some v
  | none => ρ x
theorem rho_know {ρ : Rho} (kv : List (String × VV)) (h : ∀ p ∈ kv, ρ p.1 = some p.2) : ρ = know kv ρ := by
  funext x
  unfold know
  split
  · rename_i v hv
    induction kv with
    | nil => exact no hv
    | cons p kv ih =>
      rw [List.lookup_cons] at hv
      by_cases e : x = p.1
      · rw [e, beq_self_eq_true] at hv
        (have e := si hv; subst e; clear hv)
        rw [e]; exact h p (.head _)
      · rw [beq_eq_false_iff_ne.mpr e] at hv
        exact ih (fun q hq => h q (.tail _ hq)) hv
  · rfl
theorem seqPut {ρ : Rho} {e : Rho → Option V} {s : String} {m' : Rho → Option Out} {o : Out} (x : PyData) (h : evl e ρ = some ⟨x, .d⟩) (h' : run m' (ρ.set s (.val ⟨x, .d⟩)) = some o) : run (fun ρ => ((e ρ).bind (putV ρ s)).bind (thenB m')) ρ = some o := by
  dsimp only [run]; rw [show e ρ = _ from h]; exact h'
theorem run_of {m : Rho → Option Out} {ρ : Rho} {b o : Option Out} (h : run m ρ = b) (h' : b = o) : run m ρ = o := h.trans h'
end

section
open PySem PySem.Calls PySem.W PyProof.Rows
variable {prog : Program} {w : World} {Hz : List Addr} {hb : Heap}
theorem wellAll_ints {P : Params} : ∀ {vs : List Value} {l : List Int}, WellAll P hb vs (ofPys (l.map .int)) → RDs prog w Hz hb vs (l.map .int) []
  | vs, [], h => by cases h; exact .nil
  | vs, i :: l, h => by
    cases h with
    | cons h1 h2 =>
      cases h1
      exact .cons (as := []) (.int _ _) (wellAll_ints h2)
theorem rd_ints {P : Params} {a : Addr} {l : List Int} (h : Well P hb (.ref a) (ofPy (.list (l.map .int)))) : RD prog w Hz hb (.ref a) (.list (l.map .int)) [a] := by
  have h' : Well P hb (.ref a) (.list (ofPys (l.map .int))) := by simpa [ofPy] using h
  cases h' with
  | list h1 h2 => exact .list (n := 0) h1 (wellAll_ints h2)
theorem base_of {s : Heap} {p : Program} {loose : List Str} {mean : ExcName → Option Value} {mg mb : Str → Option Value} (T : Top p loose mean mg mb s) (hi : importsNone p = true) (ht : prog.given.tree = none) : Base prog [] s s := by
  have sr := T.seer hi
  refine ⟨fun _ q => (nomatch q), T.nolimit, sr, ht, ?_, Grow.refl _⟩
  obtain ⟨mm, ⟨o, _, _, ho, _⟩, _⟩ := sr.mods
  exact ⟨o, ho⟩
theorem law_run {n : Nat} {m : List PyData → Option PyData} {s : Shared} {mg : Str → Option Value} {fa a : Addr} {l : List Int} {P : Params} {Q : Value → Shared → Prop} {E : Value → Shared → Prop} (hD : DefG prog w s.heap n "law" m) (hm : m [.list (l.map .int)] = some (.bool true))
    (b : Base prog [] s.heap s.heap) (G : s.heap.Ns mainGlobals mg) (hfa : mg (Str.ofString "law") = some (.ref fa)) (hw : Well P s.heap (.ref a) (ofPy (.list (l.map .int)))) (hl : l.length ≤ 63) (hn : n ≤ 100) (hQ : ∀ s', Keeps s s' → Q (.bool true) s') :
    wpAny (model prog w) callerA (call (.ref fa) [.ref a]) Q E s := by
  obtain ⟨a', o, fd, g, ho, hd, hf⟩ := hD
  have e : a' = fa := by
    rcases g with ⟨mg', G', e⟩ | ⟨mg', mb', G', e, _⟩
    · have := G.agree G' (Str.ofString "law")
      rw [hfa, e] at this
      cases this; rfl
    · have := G.agree G' (Str.ofString "law")
      rw [hfa, e] at this
      cases this
  subst e
  have hA : Room callerA n := by
    refine ⟨rfl, ?_, ?_, ⟨[], rfl⟩⟩
    · have : (1 + claimMargin) + 100 + 100 < recursionLimit := by decide
      show (1 + claimMargin) + n + 100 < recursionLimit
      lia
    · have : 4 + 8 * 100 + 100 < cLine := by decide
      show 4 + 8 * n + 100 < cLine
      lia
  have hwf : wfs [.list (l.map PyData.int)] = true := by
    simp only [wfs, wf, Bool.and_true, Bool.and_eq_true, decide_eq_true_eq]
    refine ⟨Nat.le_trans (by simpa using hl) (by decide : 63 ≤ sizeLine), (wfs_iff _).mpr fun x hx => ?_⟩
    obtain ⟨i, _, rfl⟩ := List.mem_map.mp hx
    rfl
  refine hf hA b (.cons (rd_ints hw) .nil) hwf hm fun u as s' k r c fr => ?_
  cases r
  exact hQ s' k
end

section
variable {prog : Program} {w : World} {Hz : List Addr} {hb : Heap} {n : Nat} {sc : Scope}
section
variable {s₀ s s' : Shared} {X : List Addr} {env : Env} {C : List Addr} {ρ : Rho} {O : List (String × List Addr)}
end
noncomputable def EvF (prog : Program) (w : World) (hb : Heap) (n : Nat) (sc : Scope) (e : Expr) (m : Rho → Option (List PyData)) : Prop :=
  ∀ ⦃A : Around⦄ ⦃Hz : List Addr⦄ ⦃env : Env⦄ ⦃s₀ : Shared⦄ ⦃X C : List Addr⦄ ⦃ρ : Rho⦄ ⦃O : List (String × List Addr)⦄ ⦃s : Shared⦄ ⦃ys : List PyData⦄ ⦃Q : Value → Shared → Prop⦄ ⦃E : Value → Shared → Prop⦄,
    env.scope = sc → RoomF A n → InF prog w Hz hb s₀ X env C ρ O s → m ρ = some ys →
    (∀ D cs s', Keeps s s' → RD prog w Hz s'.heap (.ref D) (.list ys) (D :: cs) → wf (.list ys) = true → (∀ a ∈ D :: cs, s.heap.get? a = none) → Q (.ref D) s') → wpAny (model prog w) A (eval e env) Q E s
theorem EvF.comp {elt tgt iter : Expr} {ifs : List Expr} {scope : Scope} {pos : Pos} {locs : List String} {mi : Rho → Option (List PyData × Fl)} {bind : V → Rho → Option Rho} {mt : Rho → Option Bool} {me : Rho → Option V} (ok : compOk scope sc locs = true)
    (hi : It prog w hb n sc tgt iter mi) (ht : TgL prog w hb (relS scope sc) locs tgt bind) (hif : Ifs prog w hb n (relS scope sc) ifs mt) (he : Ev prog w hb n (relS scope sc) elt me) :
    EvF prog w hb n sc (.ListComp elt [⟨tgt, iter, ifs, 0⟩] scope pos) (compV mi locs bind mt me) := by
  intro A Hz env s₀ X C ρ O s ys Q E hs hA I hys hQ
  obtain ⟨⟨xs, f⟩, hv, hd⟩ := bindE hys
  have OK := CompOk.of ok
  have hcl : ∀ p ∈ scope.names, p.2 = .free → ∃ c, env.cells.lookup p.1 = some c := fun p hp e => I.clk p.1 (by unfold Env.kindOf; rw [hs]; exact OK.free p hp e)
  show wpAny _ _ (comprehension (.ListComp elt [⟨tgt, iter, ifs, 0⟩] scope pos) scope env (firstIterPos [⟨tgt, iter, ifs, 0⟩] pos) (newList []) false (eval iter env)) _ _ s
  refine wpAny_comprehension_free (g := ⟨tgt, iter, ifs, 0⟩) (gs := []) rfl (hi.1 env) (closureFor_clos hcl) OK.kind (fun x hx e => (OK.locs x hx e).1) ?_
  refine comp_core OK hi ht hif he hs hA I hv hd fun D C' s' cs m k rd cw fr hC hn => ?_
  refine ⟨m, hn, fun h' hsb => ?_⟩
  have k' : Keeps s { s' with heap := h' } := by
    obtain ⟨h1, t1, e1, g1⟩ := k
    subst e1
    exact ⟨h', t1, rfl, fun b o e => (hsb.2 b fun q => by rw [q, hC] at e; exact no e).trans (g1 b o e)⟩
  refine hQ D cs _ k' (rd.off (W := [C']) (fun b o e hc => ?_) (fun a ha => by simpa using (fr a ha).2)) cw fun a ha => (fr a ha).1
  refine (hsb.2 b fun q => ?_).trans e
  obtain ⟨o', es, ep, ho', hd', _⟩ := hn
  rcases hc with hc | hc
  · exact hc (by simp [q])
  · rw [q, ho'] at e; (have e := si e; subst e; clear e)
    obtain ⟨_, _, z⟩ := hc
    rw [z] at hd'; cases hd'
section
variable {s₀ s : Shared} {X : List Addr} {env : Env} {C : List Addr} {ρ : Rho} {O : List (String × List Addr)}
end
noncomputable def dictOfD : PyData → Option (List (PyData × PyData))
  | .dict kvs => if plainK kvs = true then some kvs else none
  | _ => none
theorem dictOfD_some {x : PyData} {kvs : List (PyData × PyData)} (h : dictOfD x = some kvs) : x = .dict kvs ∧ plainK kvs = true := by
  cases x with
  | dict k =>
    change (if plainK k = true then some k else none) = some kvs at h
    by_cases hp : plainK k = true
    · rw [if_pos hp] at h; (have e := si h; subst e; clear h); exact ⟨rfl, hp⟩
    · rw [if_neg hp] at h; exact no h
  | _ => exact no h
inductive RPs (prog : Program) (w : World) (Hz : List Addr) (s₀ : Heap) (W : List Addr) (h : Heap) : List (Value × Value) → List (Str × V) → Prop
  | nil : RPs prog w Hz s₀ W h [] []
  | cons {x : Str} {t : Tok} {u : Value} {v : V} {us : List (Value × Value)} {vs : List (Str × V)} : wf (.str x) = true → Rep prog w Hz s₀ W h u v → RPs prog w Hz s₀ W h us vs → RPs prog w Hz s₀ W h ((.str x t, u) :: us) ((x, v) :: vs)
noncomputable def Prs (prog : Program) (w : World) (hb : Heap) (n : Nat) (sc : Scope) (ks : List (Option Expr)) (es : List Expr) (m : Rho → Option (List (Str × V))) : Prop :=
  ∀ ⦃A : Around⦄ ⦃Hz : List Addr⦄ ⦃env : Env⦄ ⦃s₀ : Shared⦄ ⦃X C : List Addr⦄ ⦃ρ : Rho⦄ ⦃O : List (String × List Addr)⦄ ⦃s : Shared⦄ ⦃r : List (Str × V)⦄ ⦃pos : Pos⦄ ⦃Q : List (Value × Value) → Shared → Prop⦄ ⦃E : Value → Shared → Prop⦄,
    env.scope = sc → RoomF A n → InF prog w Hz hb s₀ X env C ρ O s → m ρ = some r → (∀ us s', Keeps s s' → RPs prog w Hz s₀.heap (WW env C O) s'.heap us r → Q us s') → wpAny (model prog w) A (evalPairs (pairTrees ks es env pos)) Q E s
theorem Prs.nil : Prs prog w hb n sc [] [] (fun _ => some []) := by
  intro A Hz env s₀ X C ρ O s r pos Q E hs hA I hm hQ
  (have e := si hm; subst e; clear hm)
  exact pairTrees_nil_walk (hQ [] s (keeps_refl s) .nil)
theorem Prs.cons {x : String} {k : Nat} {kp : Pos} {e : Expr} {ks : List (Option Expr)} {es : List Expr} {m : Rho → Option V} {ms : Rho → Option (List (Str × V))} (h : Ev prog w hb n sc e m) (hr : Prs prog w hb n sc ks es ms) (hx : wf (.str (Str.ofString x)) = true) :
    Prs prog w hb n sc (some (.Constant (.str (Str.ofString x)) k kp) :: ks) (e :: es) (fun ρ => do let a ← m ρ; let r ← ms ρ; some ((Str.ofString x, a) :: r)) := by
  intro A Hz env s₀ X C ρ O s r pos Q E hs hA I
  refine bindI fun a ha => bindI fun as has hm hQ => ?_
  (have e := si hm; subst e; clear hm)
  refine pairTrees_cons_walk (wpAny_Constant_str ?_)
  have k₀ := keeps_toks s (s.toks + 1)
  refine h hs hA (I.grow k₀) ha fun u s₁ k₁ r₁ => hr hs hA ((I.grow k₀).grow k₁) has fun us s₂ k₂ r₂ => ?_
  exact hQ _ _ (keeps_trans k₀ (keeps_trans k₁ k₂)) (.cons hx (r₁.grow (keeps_grow k₂)) r₂)
theorem RPs.str {s₀ : Heap} {W : List Addr} {h : Heap} {us : List (Value × Value)} {vs : List (Str × V)} (r : RPs prog w Hz s₀ W h us vs) : allStrKeys us = true ∧ (strPairs us).map (·.1) = vs.map (·.1) := by
  induction r with
  | nil => exact ⟨rfl, rfl⟩
  | cons _ _ _ ih => exact ⟨ih.1, by simp only [strPairs, List.map_cons, ih.2]⟩
theorem RPs.rds {s₀ : Heap} {W : List Addr} {h : Heap} {us : List (Value × Value)} {vs : List (Str × V)} (r : RPs prog w Hz s₀ W h us vs) (hf : flats (vs.map (·.2.x)) = true) :
    RDs prog w Hz h ((strPairs us).map (·.2)) (vs.map (·.2.x)) [] ∧ (∀ p ∈ vs, wf (.str p.1) = true ∧ wf p.2.x = true) := by
  induction r with
  | nil => exact ⟨.nil, fun _ q => nomatch q⟩
  | cons a b _ ih =>
    simp only [List.map_cons, flats, Bool.and_eq_true] at hf
    obtain ⟨as, rd, c, _⟩ := b
    have := rd.flat_foot hf.1
    subst this
    refine ⟨.cons (as := []) rd (ih hf.2).1, fun p hp => ?_⟩
    rcases List.mem_cons.mp hp with rfl | hp
    · exact ⟨a, c⟩
    · exact (ih hf.2).2 p hp
noncomputable def dictV (r : List (Str × V)) : Option V := if (r.map (·.1)).Nodup ∧ flats (r.map (·.2.x)) = true ∧ r.length ≤ sizeLine then some ⟨dictOf (r.map fun p => (p.1, p.2.x)), .d⟩ else none
theorem Ev.dict {keys : List (Option Expr)} {values : List Expr} {pos : Pos} {m : Rho → Option (List (Str × V))} (h : Prs prog w hb n sc keys values m) (hall : keys.all (·.isSome) = true) (hl : keys.length = values.length) (h0 : keys ≠ [])
    (hlen : keys.length ≤ 15) : Ev prog w hb n sc (.Dict keys values pos) (fun ρ => (m ρ).bind dictV) := by
  intro A Hz env s₀ X C ρ O s v Q E hs hA I
  refine bindI fun r hr hm hQ => ?_
  unfold dictV at hm
  revert hm
  refine ifI fun hc hm => ?_
  · (have e := si hm; subst e; clear hm)
    refine wpAny_Dict_walk (knd := strKind prog w) hall hl h0 hlen ?_
    have k₀ := keeps_push s { cls := .type "dict", data := .dict #[] }
    refine h hs hA (I.grow k₀) hr fun us s₁ k₁ r₁ => ?_
    obtain ⟨q1, q2⟩ := r₁.str
    obtain ⟨q3, q4⟩ := r₁.rds hc.2.1
    have hz := I.size_fresh
    have hmod : (s.heap.objs.size == sysModules) = false := by
      rw [beq_eq_false_iff_ne]
      intro e
      obtain ⟨o, ho⟩ := I.base.mods
      have := I.base.grow _ _ ho
      rw [← e, get?_size_none _ (Nat.le_refl _)] at this
      exact no this
    have hd : s₁.heap.DictOf (strKind prog w) s.heap.objs.size [] := (Heap.DictOf.new s.heap).keep (keeps_grow k₁)
    refine ⟨strPairs us, carries_strPairs prog w us q1, hd, fun h' hm' hs' => ?_⟩
    rw [merged_nil_of_nodup _ (by rw [q2]; exact hc.1)] at hm'
    have g : Grow s.heap h' := fun b o e => by
      have hne : b ≠ s.heap.objs.size := fun e' => by rw [e', get?_size_none _ (Nat.le_refl _)] at e; exact no e
      rw [hs'.2 b hne]
      exact keeps_grow k₁ _ _ (Grow.push _ _ _ _ e)
    have of : Off [s.heap.objs.size] s₁.heap h' := by
      intro b o e hb'
      have hne : b ≠ s.heap.objs.size := by
        rcases hb' with hb' | ⟨vs, kk, rfl⟩
        · exact fun e' => hb' (by rw [e']; exact .head _)
        · intro e'
          obtain ⟨o', es, ep, ho', hx, _⟩ := hd
          rw [e', ho'] at e
          (have e := si e; subst e; clear e)
          have := hx.1
          simp at this
      rw [hs'.2 b hne]; exact e
    obtain ⟨h1, t1, e1, _⟩ := keeps_trans k₀ k₁
    refine hQ _ _ ⟨h', _, by rw [e1], g⟩ ⟨[s.heap.objs.size], .dict hm' hmod (by rw [q2, List.map_map]; rfl) ?_, wf_dictOf.mpr ⟨by simpa using hc.2.2, fun p hp => ?_⟩, fun a ha => ?_⟩
    · have := q3.off of (fun _ q => nomatch q)
      rw [List.map_map]; exact this
    · obtain ⟨q, hq, rfl⟩ := List.mem_map.mp hp
      exact q4 q hq
    · rw [List.mem_singleton.mp ha]; exact hz
noncomputable def Odel (O : List (String × List Addr)) (x : String) : List (String × List Addr) := O.filter fun p => p.1 != x
theorem lookup_del {O : List (String × List Addr)} {x y : String} (h : y ≠ x) : (Odel O x).lookup y = O.lookup y := by
  unfold Odel
  induction O with
  | nil => rfl
  | cons p O ih =>
    by_cases hp : p.1 = x
    · rw [List.filter_cons_of_neg (by simp [hp]), ih, List.lookup_cons, beq_eq_false_iff_ne.mpr (fun e => h (e.trans hp))]
    · rw [List.filter_cons_of_pos (by simp [hp]), List.lookup_cons, List.lookup_cons, ih]
theorem mem_del {O : List (String × List Addr)} {x : String} {p : String × List Addr} (h : p ∈ Odel O x) : p ∈ O ∧ p.1 ≠ x := by
  unfold Odel at h
  rw [List.mem_filter] at h
  exact ⟨h.1, by simpa using h.2⟩
theorem del_sub {O : List (String × List Addr)} {x : String} : ((Odel O x).flatMap (·.2)).Sublist (O.flatMap (·.2)) := by
  unfold Odel
  induction O with
  | nil => exact List.Sublist.refl _
  | cons p O ih =>
    by_cases hp : p.1 = x
    · rw [List.filter_cons_of_neg (by simp [hp]), List.flatMap_cons]
      exact ih.trans (List.sublist_append_right _ _)
    · rw [List.filter_cons_of_pos (by simp [hp]), List.flatMap_cons, List.flatMap_cons]
      exact (List.Sublist.refl _).append ih
theorem flat_disj {x y : String} {sp sq : List Addr} {b : Addr} (hy : y ≠ x) (h1 : b ∈ sp) (h2 : b ∈ sq) : ∀ {O : List (String × List Addr)}, (O.flatMap (·.2)).Nodup → (x, sp) ∈ O → (y, sq) ∈ O → False
  | [], _, m, _ => nomatch m
  | p :: O, nd, m1, m2 => by
    rw [List.flatMap_cons, List.nodup_append] at nd
    rcases List.mem_cons.mp m1 with e1 | m1 <;> rcases List.mem_cons.mp m2 with e2 | m2
    · rw [← e1] at e2; exact hy (congrArg Prod.fst e2)
    · exact nd.2.2 b (by rw [← e1]; exact h1) b (List.mem_flatMap.mpr ⟨_, m2, h2⟩) rfl
    · exact nd.2.2 b (by rw [← e2]; exact h2) b (List.mem_flatMap.mpr ⟨_, m1, h1⟩) rfl
    · exact flat_disj hy h1 h2 nd.2.1 m1 m2
theorem FlOk.turn {s₀ h : Heap} {W W' : List Addr} {f : Fl} {as : List Addr} (o : FlOk s₀ W f as) (al : ∀ b ∈ as, ∃ ob, h.get? b = some ob) (hW : ∀ b ∈ W', b ∈ W ∨ h.get? b = none) : FlOk s₀ W' f as := by
  have ne : ∀ b ∈ as, b ∉ W → b ∉ W' := fun b hb h1 h2 => (hW b h2).elim h1 fun e => by
    obtain ⟨ob, q⟩ := al b hb
    rw [e] at q; exact no q
  induction f with
  | d => exact fun b hb => ⟨(o b hb).1, ne b hb (o b hb).2⟩
  | s => exact fun b hb => ne b hb (o b hb)
  | t => trivial
theorem RepVV.turn {s₀ h h' : Heap} {Z W W' : List Addr} {O O' : List (String × List Addr)} {x : String} {u : Value} {vv : VV} (k : Off W h h') (k' : ∀ b ob, h.get? b = some ob → b ∉ Z → h'.get? b = some ob) (r : RepVV prog w Hz s₀ W O h x u vv)
    (hz : ∀ sp, O.lookup x = some sp → ∀ a ∈ sp, a ∉ Z) (hW : ∀ b ∈ W', b ∈ W ∨ h.get? b = none) (hO : O'.lookup x = O.lookup x) : RepVV prog w Hz s₀ W' O' h' x u vv := by
  induction vv with
  | val v =>
    obtain ⟨f, r⟩ := r
    obtain ⟨as, r, c, o⟩ := r
    refine ⟨f, as, r.off k ?_, c, o.turn r.alive hW⟩
    rcases f with f | f <;> rw [f] at o
    · exact fun a ha => (o a ha).2
    · exact o
  | own o =>
    obtain ⟨sp, e, r⟩ := r
    refine ⟨sp, hO.trans e, ?_⟩
    have hz := hz sp e
    induction r with
    | lst a b c d => exact .lst (k' _ _ a (hz _ (.head _))) (b.off k fun x hx => (d x hx).2) c (d.turn b.alive hW)
    | dct a g e' b c d =>
      obtain ⟨o, es, ep, ho, r⟩ := a
      exact .dct ⟨o, es, ep, k' _ _ ho (hz _ (.head _)), r⟩ g e' (b.off k fun x hx => (d x hx).2) c (d.turn b.alive hW)
    | tree a b c e' f => exact .tree (a.off (W := Z) (fun b o e q => q.elim (k' b o e) fun t => k b o e (.inr t)) hz) b c e' f
theorem node_head {h : Heap} {a : Addr} {d : PyData} {as : List Addr} (r : RD prog w Hz h (.ref a) d as) (hn : isNode d = true) : ∃ bs, as = a :: bs := by
  cases d with
  | list xs => obtain ⟨a', _, _, bs, e1, e2, _⟩ := r.list_inv; cases e1; exact ⟨bs, e2⟩
  | dict xs =>
    generalize hd : PyData.dict xs = D at r
    cases r with
    | dict _ _ _ _ => exact ⟨_, rfl⟩
    | val _ => exact ⟨_, rfl⟩
    | store _ _ => exact ⟨_, rfl⟩
    | inst _ _ _ _ _ => exact ⟨_, rfl⟩
    | _ => cases hd
  | _ => cases hn
section
variable {s₀ s : Shared} {X : List Addr} {env : Env} {C : List Addr} {ρ : Rho} {O : List (String × List Addr)}
theorem ww_new {x : String} {as as' : List Addr} {h : Heap} (hO : O.lookup x = some as) (hn : ∀ a ∈ as', a ∈ as ∨ h.get? a = none) : ∀ b ∈ WW env C ((x, as') :: Odel O x), b ∈ WW env C O ∨ h.get? b = none := by
  intro b hb'
  unfold WW at hb'
  rw [List.flatMap_cons] at hb'
  rcases List.mem_cons.mp hb' with rfl | hb'
  · exact .inl (.head _)
  · rcases List.mem_append.mp hb' with hb' | hb'
    · exact .inl (List.mem_cons_of_mem _ (List.mem_append_left _ hb'))
    · rcases List.mem_append.mp hb' with hb' | hb'
      · exact (hn b hb').imp (own_sub hO) id
      · exact .inl (List.mem_cons_of_mem _ (List.mem_append_right _ (del_sub.subset hb')))
theorem InS.updTree (I : InS prog w Hz hb s₀ X env C ρ O s) {x : String} {ro : Option Addr} {d d' : PyData} {as as' : List Addr} {h' : Heap} {tk : Nat} (hx : ρ x = some (.own (.tree ro d))) (hO : O.lookup x = some as)
    (hs : ∀ b o, s.heap.get? b = some o → b ∉ as → h'.get? b = some o) (ha : ∀ a ∈ as, ∃ o, h'.get? a = some o)
    (hn : ∀ a ∈ as', (a ∈ as ∨ s.heap.get? a = none) ∧ ∃ o, h'.get? a = some o ∧ ¬ Tup o) (hnd : as'.Nodup) (hwf : wf d' = true) (hno : isNode d' = true)
    (hr : ∀ a, RD prog w Hz s.heap (.ref a) d as → RD prog w Hz h' (.ref a) d' as') :
    InS prog w Hz hb s₀ X env C (ρ.set x (.own (.tree ro d'))) ((x, as') :: Odel O x) { s with heap := h', toks := tk } := by
  have w1 : Base prog Hz hb h' := ⟨fun z hz => by
    obtain ⟨q, o, e, t⟩ := I.base.hide z hz
    refine ⟨q, o, hs z o e (fun hz' => ?_), t⟩
    obtain ⟨o', e', nt⟩ := I.walive z (own_sub hO hz')
    rw [e] at e'; (have e := si e'; subst e; clear e'); exact nt t, I.base.lim, I.base.seer, I.base.tree, I.base.mods, fun b o e => hs b o (I.base.grow b o e) fun hz => by
    rw [(I.wfresh b (own_sub hO hz)).1] at e; exact no e⟩
  have w2 : ∀ b o, s₀.heap.get? b = some o → b ∉ X → h'.get? b = some o := fun b o e hx => hs b o (I.keep b o e hx) fun hz => by
    rw [(I.wfresh b (own_sub hO hz)).2 hx] at e; exact no e
  have w3 : ∀ b o, s₀.heap.get? b = some o → ∃ o', h'.get? b = some o' := fun b o e => by
    by_cases hz : b ∈ as
    · exact ha b hz
    · obtain ⟨o', e'⟩ := I.alive b o e; exact ⟨o', hs b o' e' hz⟩
  have w5 : Off (WW env C O) s.heap h' := fun b o e hc => hs b o e fun hz => by
    rcases hc with hc | hc
    · exact hc (own_sub hO hz)
    · obtain ⟨o', e', q⟩ := I.walive b (own_sub hO hz)
      rw [e] at e'; (have e := si e'; subst e; clear e'); exact q hc
  obtain ⟨h0, t0, e0⟩ := I.same
  have hW := ww_new (env := env) (C := C) hO fun a h => (hn a h).1
  have hoff : ∀ a ∈ as, a ≠ env.locals ∧ a ∉ C := fun a h => own_off I.wnodup hO h
  have m1 := lookup_mem hO
  have N := I.wnodup
  unfold WW at N
  rw [List.nodup_cons, List.nodup_append] at N
  have aliveW : ∀ a ∈ WW env C O, ∀ b, s.heap.get? b = none → a ≠ b := fun a h b hb' e => by
    obtain ⟨o, q, _⟩ := I.walive a h
    rw [e, hb'] at q; exact no q
  have other : ∀ y, y ≠ x → ∀ sp, O.lookup y = some sp → ∀ b ∈ sp, b ∉ as := fun y hy sp hsp b h1 h2 => flat_disj hy h2 h1 N.2.2.1 m1 (lookup_mem hsp)
  have hself : ((x, as') :: Odel O x).lookup x = some as' := by rw [List.lookup_cons, beq_self_eq_true]
  have hoth : ∀ y, y ≠ x → ((x, as') :: Odel O x).lookup y = O.lookup y := fun y hy => by
    rw [List.lookup_cons, beq_eq_false_iff_ne.mpr hy]; exact lookup_del hy
  have mine : ∀ u, RepVV prog w Hz s₀.heap (WW env C O) O s.heap x u (.own (.tree ro d)) → RepVV prog w Hz s₀.heap (WW env C ((x, as') :: Odel O x)) ((x, as') :: Odel O x) h' x u (.own (.tree ro d')) := by
    rintro u ⟨sp, e, r⟩
    rw [hO] at e; (have e := si e; subst e; clear e)
    cases r with
    | tree a b c e f => exact ⟨as', hself, .tree (hr _ a) hnd hwf hno f⟩
  have theirs : ∀ y, y ≠ x → ∀ u vv, RepVV prog w Hz s₀.heap (WW env C O) O s.heap y u vv → RepVV prog w Hz s₀.heap (WW env C ((x, as') :: Odel O x)) ((x, as') :: Odel O x) h' y u vv :=
    fun y hy u vv r => r.turn w5 hs (other y hy) hW (hoth y hy)
  refine ⟨⟨⟨h', tk, by rw [e0]⟩, w1, w2, w3, fun a h => ?_, fun a h => ?_, ?_, I.kind, I.glob, I.bult, I.clk, ?_, fun y vv e1 e2 => ?_⟩, I.fc, I.finj, fun z c hc => ?_⟩
  · by_cases h2 : a ∈ as'
    · exact (hn a h2).2
    · have h3 : a ∈ WW env C O ∧ a ∉ as := by
        unfold WW at h
        rw [List.flatMap_cons] at h
        rcases List.mem_cons.mp h with rfl | q
        · exact ⟨.head _, fun q => (hoff _ q).1 rfl⟩
        · rcases List.mem_append.mp q with q | q
          · exact ⟨List.mem_cons_of_mem _ (List.mem_append_left _ q), fun q' => (hoff _ q').2 q⟩
          · rcases List.mem_append.mp q with q | q
            · exact absurd q h2
            · refine ⟨List.mem_cons_of_mem _ (List.mem_append_right _ (del_sub.subset q)), fun q' => ?_⟩
              obtain ⟨⟨y, sq⟩, m2, hq⟩ := List.mem_flatMap.mp q
              obtain ⟨m2, hy⟩ := mem_del m2
              exact flat_disj hy q' hq N.2.2.1 m1 m2
      obtain ⟨o, e, t⟩ := I.walive a h3.1
      exact ⟨o, hs a o e h3.2, t⟩
  · rcases hW a h with h | h
    · exact I.wfresh a h
    · refine ⟨?_, fun _ => (I.toInF.fresh h).1⟩
      cases e : hb.get? a with
      | none => rfl
      | some o => rw [I.base.grow _ _ e] at h; cases h
  · unfold WW
    rw [List.flatMap_cons, List.nodup_cons, List.nodup_append, List.nodup_append]
    have inW : ∀ b, b ∈ (Odel O x).flatMap (·.2) → b ∈ WW env C O := fun b q => List.mem_cons_of_mem _ (List.mem_append_right _ (del_sub.subset q))
    refine ⟨fun q => ?_, N.2.1, ⟨hnd, N.2.2.1.sublist del_sub, fun a ha' b hb' e => ?_⟩, fun a ha' b hb' e => ?_⟩
    · rcases List.mem_append.mp q with q | q
      · exact N.1 (List.mem_append_left _ q)
      · rcases List.mem_append.mp q with q | q
        · rcases (hn _ q).1 with q | q
          · exact (hoff _ q).1 rfl
          · exact aliveW _ (.head _) _ q rfl
        · exact N.1 (List.mem_append_right _ (del_sub.subset q))
    · subst e
      rcases (hn _ ha').1 with q | q
      · obtain ⟨⟨y, sq⟩, m2, hq⟩ := List.mem_flatMap.mp hb'
        obtain ⟨m2, hy⟩ := mem_del m2
        exact flat_disj hy q hq N.2.2.1 m1 m2
      · exact aliveW _ (inW _ hb') _ q rfl
    · subst e
      rcases List.mem_append.mp hb' with q | q
      · rcases (hn _ q).1 with q | q
        · exact (hoff _ q).2 ha'
        · exact aliveW _ (List.mem_cons_of_mem _ (List.mem_append_left _ ha')) _ q rfl
      · exact N.2.2.2 a ha' a (del_sub.subset q) rfl
  · obtain ⟨m, hm, hv⟩ := I.ns
    obtain ⟨o, es, ep, ho, hm⟩ := hm
    refine ⟨m, ⟨o, es, ep, hs _ _ ho fun q => (hoff _ q).1 rfl, hm⟩, fun y vv e1 e2 => ?_⟩
    have e1' : (if y = x then some (VV.own (.tree ro d')) else ρ y) = some vv := (set_if _ _ _ _).symm.trans e1
    by_cases hy : y = x
    · subst hy
      rw [if_pos rfl] at e1'; (have e := si e1'; subst e; clear e1')
      obtain ⟨u, b, r⟩ := hv y _ hx e2
      exact ⟨u, b, mine u r⟩
    · rw [if_neg hy] at e1'
      obtain ⟨u, b, r⟩ := hv y vv e1' e2
      exact ⟨u, b, theirs y hy u vv r⟩
  · have e1' : (if y = x then some (VV.own (.tree ro d')) else ρ y) = some vv := (set_if _ _ _ _).symm.trans e1
    obtain ⟨c, hc, hcC⟩ := I.fc y e2
    have hca : c ∉ as := fun q => (hoff c q).2 hcC
    by_cases hy : y = x
    · subst hy
      rw [if_pos rfl] at e1'; (have e := si e1'; subst e; clear e1')
      obtain ⟨c', u, b1, ⟨o, ho, b2⟩, r⟩ := I.cell y _ hx e2
      rw [hc] at b1; (have e := si b1; subst e; clear b1)
      exact ⟨c, u, hc, ⟨o, hs _ _ ho hca, b2⟩, mine u r⟩
    · rw [if_neg hy] at e1'
      obtain ⟨c', u, b1, ⟨o, ho, b2⟩, r⟩ := I.cell y vv e1' e2
      rw [hc] at b1; (have e := si b1; subst e; clear b1)
      exact ⟨c, u, hc, ⟨o, hs _ _ ho hca, b2⟩, theirs y hy u vv r⟩
  · obtain ⟨q', v, ⟨o, ho, hv⟩⟩ := I.cello z c hc
    exact ⟨q', v, ⟨o, hs _ _ ho fun q => (hoff c q).2 q', hv⟩⟩
theorem tree_step {x : String} {as as' : List Addr} {h' : Heap} (hO : O.lookup x = some as) (hs : ∀ b o, s.heap.get? b = some o → b ∉ as → h'.get? b = some o) (hn : ∀ a ∈ as', a ∈ as ∨ s.heap.get? a = none) :
    Step s.heap h' (WW env C O) (WW env C ((x, as') :: Odel O x)) := ⟨fun b o e hw => hs b o e fun q => hw (own_sub hO q), ww_new hO hn⟩
theorem InS.ownedT (I : InS prog w Hz hb s₀ X env C ρ O s) {x : String} {ro : Option Addr} {d : PyData} {pos : Pos} {A : Around} {E : Value → Shared → Prop} {Q : Value → Shared → Prop} (hv : isVar env.scope x = true) (hx : ρ x = some (.own (.tree ro d)))
    (hQ : ∀ ad as, O.lookup x = some as → RD prog w Hz s.heap (.ref ad) d as → as.Nodup → wf d = true → isNode d = true → Q (.ref ad) s) : wpAny (model prog w) A (eval (.Name (Str.ofString x) pos) env) Q E s := by
  simp only [isVar, Bool.and_eq_true, Bool.or_eq_true, decide_eq_true_eq, Bool.not_eq_true'] at hv
  obtain ⟨hv, hd⟩ := hv
  have fin : ∀ u sp, O.lookup x = some sp → RepO prog w Hz s₀.heap (WW env C O) s.heap u (.tree ro d) sp → Q u s := by
    intro u sp e r
    cases r with
    | tree a b c e' f => exact hQ _ _ e a b c e'
  rcases hv with hv | hv
  · obtain ⟨m, hns, hm⟩ := I.ns
    obtain ⟨u, hu, sp, e, r⟩ := hm x _ hx hv
    exact wpAny_Name (wpAny_loadName_local I.kind hv hns hu (fin u sp e r)) hd
  · obtain ⟨c, u, hc, hu, sp, e, r⟩ := I.cell x _ hx hv
    exact wpAny_Name (wpAny_loadName_cell I.kind hv hc hu (fin u sp e r)) hd
end

noncomputable def KeptAt (h h' : Heap) (ps : List Addr) : Prop := ∀ b o, h.get? b = some o → (b ∈ ps ∨ Tup o) → h'.get? b = some o
theorem KeptAt.mono {h h' : Heap} {ps qs : List Addr} (k : KeptAt h h' ps) (hq : ∀ b ∈ qs, b ∈ ps) : KeptAt h h' qs := fun b o e q => k b o e (q.imp (hq b) id)
theorem kept_both {h h' : Heap} : (∀ {v x as}, RD prog w Hz h v x as → KeptAt h h' as → RD prog w Hz h' v x as) ∧ ∀ {vs xs as}, RDs prog w Hz h vs xs as → KeptAt h h' as → RDs prog w Hz h' vs xs as :=
  RD.both (fun _ => .none) (fun b _ => .bool b) (fun i t _ => .int i t) (fun i t _ => .str i t) (fun a _ r k => .list (k _ _ a (.inl (.head _))) (r (k.mono fun _ q => .tail _ q))) (fun a z _ r k => .tuple (k _ _ a (.inr ⟨_, _, rfl⟩)) z (r k))
    (fun q g e _ r k => .dict (by obtain ⟨o, es, ep, ho, q⟩ := q; exact ⟨o, es, ep, k _ _ ho (.inl (.head _)), q⟩) g e (r (k.mono fun _ q => .tail _ q))) (fun i k => .val (i.kept fun c hc o e => k c o e (.inl hc))) (fun i _ r k => .store (i.kept fun c hc o e => k c o e (.inl (List.mem_append_left _ hc))) (r (k.mono fun _ q => List.mem_append_right _ q))) (fun i p e n _ r k => .inst (i.kept (fun o eo => k _ o eo (.inl (.head _))) (fun o eo => k _ o eo (.inl (.tail _ (.head _))))) p e n (r (k.mono fun _ q => .tail _ (.tail _ q)))) (fun _ => .nil) (fun _ _ a r k => .cons (a (k.mono fun _ q => List.mem_append_left _ q)) (r (k.mono fun _ q => List.mem_append_right _ q)))
section
variable (prog w Hz)
inductive HoleR (h : Heap) (vs : List Value) (xs : List PyData) (i : Nat) (x : PyData) : List Addr → Prop
  | mk (v : Value) (l b m : List Addr) (h1 : vs[i]? = some v) (h2 : RD prog w Hz h v x b) (h3 : ∀ (h' : Heap) x' b', KeptAt h h' (l ++ m) → RD prog w Hz h' v x' b' → RDs prog w Hz h' vs (xs.set i x') (l ++ (b' ++ m))) : HoleR h vs xs i x (l ++ (b ++ m))
end
theorem RDs.hole {h : Heap} {vs : List Value} {xs : List PyData} {as : List Addr} (r : RDs prog w Hz h vs xs as) {i : Nat} {x : PyData} (e : xs[i]? = some x) : HoleR prog w Hz h vs xs i x as := by
  refine RDs.ind (R := fun vs xs as => ∀ i : Nat, xs[i]? = some x → HoleR prog w Hz h vs xs i x as) (fun i e => by simp at e) (fun {u us y ys as bs} a q r i e => ?_) r i e
  cases i with
  | zero =>
    rw [List.getElem?_cons_zero] at e
    (have e := si e; subst e; clear e)
    exact HoleR.mk (l := []) u as bs rfl a fun h' x' b' k r' => show RDs prog w Hz h' (u :: us) (x' :: ys) (b' ++ bs) from .cons r' (kept_both.2 q k)
  | succ i =>
    obtain ⟨v, l, b, m, h1, h3, h4⟩ := r i e
    rw [← List.append_assoc]
    refine ⟨v, as ++ l, b, m, h1, h3, fun h' x' b' k r' => ?_⟩
    rw [List.append_assoc]
    exact .cons (kept_both.1 a (k.mono fun _ q => List.mem_append_left _ (List.mem_append_left _ q))) (h4 h' x' b' (k.mono fun c q => by
      rcases List.mem_append.mp q with q | q
      · exact List.mem_append_left _ (List.mem_append_right _ q)
      · exact List.mem_append_right _ q) r')
structure Hole (prog : Program) (w : World) (Hz : List Addr) (h : Heap) (u : Value) (d : PyData) (as : List Addr) (v : Value) (x : PyData) (b : List Addr) (up : PyData → PyData) : Prop where
  node : RD prog w Hz h v x b
  wfn : wf x = true
  wfu : ∀ x', wf x' = true → wf (up x') = true
  top : ∀ x', isNode x' = true → isNode (up x') = true
  own : isNode d = true
  split : ∃ l m, as = l ++ (b ++ m) ∧ ∀ (h' : Heap) x' b', KeptAt h h' (l ++ m) → RD prog w Hz h' v x' b' → RD prog w Hz h' u (up x') (l ++ (b' ++ m))
theorem Hole.root {h : Heap} {u : Value} {d : PyData} {as : List Addr} (r : RD prog w Hz h u d as) (c : wf d = true) (hn : isNode d = true) : Hole prog w Hz h u d as u d as id :=
  ⟨r, c, fun _ q => q, fun _ q => q, hn, [], [], by simp, fun h' x' b' _ r' => by simpa using r'⟩
theorem Hole.grow {h h' : Heap} {u v : Value} {d x : PyData} {as b : List Addr} {up : PyData → PyData} (H : Hole prog w Hz h u d as v x b up) (k : Grow h h') : Hole prog w Hz h' u d as v x b up := by
  obtain ⟨l, m, e, f⟩ := H.split
  refine ⟨H.node.grow k, H.wfn, H.wfu, H.top, H.own, l, m, e, fun h'' x' b' k' r' => f h'' x' b' (fun c o q p => k' c o (k c o q) p) r'⟩
theorem wfs_set {xs : List PyData} {i : Nat} {x : PyData} (h : wfs xs = true) (hx : wf x = true) : wfs (xs.set i x) = true := by
  rw [wfs_iff] at *
  intro y hy
  rcases List.mem_or_eq_of_mem_set hy with q | q
  · exact h y q
  · rw [q]; exact hx
section
variable (prog w Hz)
inductive HItem (h : Heap) (u : Value) (d : PyData) (as : List Addr) (xs : List PyData) (i : Nat) (x : PyData) (up : PyData → PyData) : Value → Prop
  | mk (a : Addr) (vs : List Value) (n : Nat) (v' : Value) (b' : List Addr) (h1 : h.get? a = some (lstObj vs n)) (h2 : vs.length = xs.length) (h3 : vs[i]? = some v') (h4 : Hole prog w Hz h u d as v' x b' (fun y => up (.list (xs.set i y)))) : HItem h u d as xs i x up (.ref a)
inductive HKey (h : Heap) (u : Value) (d : PyData) (as : List Addr) (kvs : List (PyData × PyData)) (k : Str) (x : PyData) (up : PyData → PyData) (f : Str → PyData → List (PyData × PyData) → List (PyData × PyData)) : Value → Prop
  | mk (a : Addr) (ks : List (Str × Value)) (v' : Value) (b' : List Addr) (h1 : h.DictOf (strKind prog w) a ks) (h2 : (a == sysModules) = false) (h3 : valueAt ks k = some v') (h4 : Hole prog w Hz h u d as v' x b' (fun y => up (.dict (f k y kvs)))) : HKey h u d as kvs k x up f (.ref a)
end
theorem Hole.item {h : Heap} {u v : Value} {d : PyData} {xs : List PyData} {as b : List Addr} {up : PyData → PyData} (H : Hole prog w Hz h u d as v (.list xs) b up) {i : Nat} {x : PyData} (e : xs[i]? = some x) :
    HItem prog w Hz h u d as xs i x up v := by
  induction H.node.listI with | mk a vs n bs h1 h2 => ?_
  induction h2.hole e with | mk v' l' b' m' g1 g3 g4 => ?_
  obtain ⟨l, m, e', f⟩ := H.split
  have c := wf_list.mp H.wfn
  refine ⟨a, vs, n, v', b', h1, h2.length, g1, g3, wfs_get c.2 e, fun x' hx' => H.wfu _ (wf_list.mpr ⟨by simpa using c.1, wfs_set c.2 hx'⟩), fun _ _ => H.top _ rfl, H.own, l ++ a :: l', m' ++ m, ?_, fun h' x' b'' k r' => ?_⟩
  · rw [e']; simp
  · have := f h' (.list (xs.set i x')) (a :: (l' ++ (b'' ++ m'))) (k.mono fun y hy => ?_) (.list (k _ _ h1 (.inl ?_)) (g4 h' x' b'' (k.mono fun y hy => ?_) r'))
    · simpa using this
    · simp only [List.mem_append, List.mem_cons] at hy ⊢
      rcases hy with hy | hy
      · exact .inl (.inl hy)
      · exact .inr (.inr hy)
    · simp
    · simp only [List.mem_append, List.mem_cons] at hy ⊢
      rcases hy with hy | hy
      · exact .inl (.inr (.inr hy))
      · exact .inr (.inl hy)
noncomputable def putD (k : Str) (y : PyData) : List (PyData × PyData) → List (PyData × PyData)
  | [] => []
  | (.str x, v) :: r => if x = k then (.str x, y) :: r else (.str x, v) :: putD k y r
  | p :: r => p :: putD k y r
theorem key_ix {k : Str} {x : PyData} {ks : List (Str × Value)} : ∀ {ys : List (Str × PyData)}, ks.map (·.1) = ys.map (·.1) → atKey k (ys.map fun p => (.str p.1, p.2)) = some x →
    ∃ i, (ys.map (·.2))[i]? = some x ∧ valueAt ks k = (ks.map (·.2))[i]? ∧ ∀ y, ∃ zs : List (Str × PyData), putD k y (ys.map fun p => (.str p.1, p.2)) = (zs.map fun p => (.str p.1, p.2)) ∧ zs.map (·.1) = ys.map (·.1) ∧ zs.map (·.2) = (ys.map (·.2)).set i y := by
  induction ks with
  | nil =>
    intro ys e h
    induction ys with
    | nil => exact no h
    | cons q ys => cases e
  | cons p ks ih =>
    intro ys e h
    induction ys with
    | nil => cases e
    | cons q ys =>
      obtain ⟨e0, e1⟩ := List.cons.inj e
      change (if q.1 = k then some q.2 else atKey k (ys.map fun p => (.str p.1, p.2))) = some x at h
      by_cases hk : q.1 = k
      · rw [if_pos hk] at h
        (have e := si h; subst e; clear h)
        refine ⟨0, rfl, valueAt_hit (e0.trans hk), fun y => ⟨(q.1, y) :: ys, ?_, rfl, rfl⟩⟩
        show (if q.1 = k then (PyData.str q.1, y) :: _ else _) = _
        rw [if_pos hk]; rfl
      · rw [if_neg hk] at h
        obtain ⟨i, h1, h2, h3⟩ := ih e1 h
        refine ⟨i + 1, h1, (valueAt_miss fun e => hk (e0.symm.trans e)).trans h2, fun y => ?_⟩
        obtain ⟨zs, g1, g2, g3⟩ := h3 y
        refine ⟨q :: zs, ?_, by rw [List.map_cons, List.map_cons, g2], by rw [List.map_cons, List.map_cons, g3]; rfl⟩
        show (if q.1 = k then _ else (PyData.str q.1, q.2) :: putD k y _) = _
        rw [if_neg hk, g1]; rfl
theorem wfk_mem : ∀ {kvs : List (PyData × PyData)}, wfk kvs = true ↔ ∀ p ∈ kvs, wf p.1 = true ∧ wf p.2 = true
  | [] => ⟨(fun _ _ q => nomatch q), fun _ => rfl⟩
  | (a, b) :: kvs => by simp [wfk, wfk_mem (kvs := kvs), and_assoc]
theorem putD_mem {k : Str} {y : PyData} : ∀ {kvs : List (PyData × PyData)} {p : PyData × PyData}, p ∈ putD k y kvs → p ∈ kvs ∨ ∃ q ∈ kvs, p = (q.1, y)
  | [], _, h => nomatch h
  | (.str x, v) :: r, p, h => by
    change p ∈ (if x = k then (PyData.str x, y) :: r else (.str x, v) :: putD k y r) at h
    split at h
    · rcases List.mem_cons.mp h with h | h
      · exact .inr ⟨(.str x, v), .head _, h⟩
      · exact .inl (.tail _ h)
    · rcases List.mem_cons.mp h with h | h
      · exact .inl (h ▸ .head _)
      · exact (putD_mem h).imp (.tail _) fun ⟨q, hq, e⟩ => ⟨q, .tail _ hq, e⟩
  | (.none, v) :: r, p, h | (.bool _, v) :: r, p, h | (.int _, v) :: r, p, h | (.list _, v) :: r, p, h | (.tuple _, v) :: r, p, h | (.dict _, v) :: r, p, h => by
    rcases List.mem_cons.mp h with h | h
    · exact .inl (h ▸ .head _)
    · exact (putD_mem h).imp (.tail _) fun ⟨q, hq, e⟩ => ⟨q, .tail _ hq, e⟩
theorem putD_len {k : Str} {y : PyData} : ∀ {kvs : List (PyData × PyData)}, (putD k y kvs).length = kvs.length
  | [] => rfl
  | (.str x, v) :: r => by
    show (if x = k then (PyData.str x, y) :: r else (.str x, v) :: putD k y r).length = _
    split
    · rfl
    · rw [List.length_cons, putD_len, List.length_cons]
  | (.none, v) :: r | (.bool _, v) :: r | (.int _, v) :: r | (.list _, v) :: r | (.tuple _, v) :: r | (.dict _, v) :: r => by
    show (_ :: putD k y r).length = _
    rw [List.length_cons, putD_len, List.length_cons]
theorem wf_putD {k : Str} {y : PyData} {kvs : List (PyData × PyData)} (h : wf (.dict kvs) = true) (hy : wf y = true) : wf (.dict (putD k y kvs)) = true := by
  simp only [wf, Bool.and_eq_true, decide_eq_true_eq] at *
  refine ⟨by rw [putD_len]; exact h.1, wfk_mem.mpr fun p hp => ?_⟩
  rcases putD_mem hp with q | ⟨q, hq, rfl⟩
  · exact wfk_mem.mp h.2 p q
  · exact ⟨(wfk_mem.mp h.2 q hq).1, hy⟩
theorem Hole.key {h : Heap} {u v : Value} {d : PyData} {kvs : List (PyData × PyData)} {as b : List Addr} {up : PyData → PyData} (H : Hole prog w Hz h u d as v (.dict kvs) b up) {k : Str} {x : PyData} (e : atKey k kvs = some x) :
    HKey prog w Hz h u d as kvs k x up putD v := by
  induction H.node.dictI (H.node.plain_at e) with | mk a ks ys bs b1 b2 b3 b4 => ?_
  obtain ⟨i, i1, i2, i3⟩ := key_ix b3 e
  induction b4.hole i1 with | mk v' l' b' m' g1 g3 g4 => ?_
  obtain ⟨l, m, e', f⟩ := H.split
  have c : wf (.dict (ys.map fun p => (.str p.1, p.2))) = true := H.wfn
  have hx : wf x = true := by
    simp only [wf, Bool.and_eq_true] at c
    obtain ⟨q, hq, rfl⟩ := List.mem_map.mp (List.mem_of_getElem? i1)
    exact wfk_at c.2 hq
  refine ⟨a, ks, v', b', b1, b2, i2.trans g1, g3, hx, fun x' hx' => H.wfu _ (wf_putD c hx'), fun _ _ => H.top _ rfl, H.own, l ++ a :: l', m' ++ m, ?_, fun h' x' b'' k' r' => ?_⟩
  · rw [e']; simp
  · obtain ⟨zs, z1, z2, z3⟩ := i3 x'
    obtain ⟨o, es, ep, ho, rest⟩ := b1
    have hk : h'.get? a = some o := k' _ _ ho (.inl (by simp))
    have hrd : RD prog w Hz h' (.ref a) (.dict (putD k x' (ys.map fun p => (.str p.1, p.2)))) (a :: (l' ++ (b'' ++ m'))) := by
      rw [z1]
      refine RD.dict (xs := zs) ⟨o, es, ep, hk, rest⟩ b2 (b3.trans z2.symm) ?_
      rw [z3]
      exact g4 h' x' b'' (k'.mono fun y hy => by
        simp only [List.mem_append, List.mem_cons] at hy ⊢
        rcases hy with hy | hy
        · exact .inl (.inr (.inr hy))
        · exact .inr (.inl hy)) r'
    have := f h' _ _ (k'.mono fun y hy => by
      simp only [List.mem_append, List.mem_cons] at hy ⊢
      rcases hy with hy | hy
      · exact .inl (.inl hy)
      · exact .inr (.inr hy)) hrd
    simpa using this
theorem nontup_both {h : Heap} : (∀ {v x as}, RD prog w Hz h v x as → ∀ a ∈ as, ∃ o, h.get? a = some o ∧ ¬ Tup o) ∧ ∀ {vs xs as}, RDs prog w Hz h vs xs as → ∀ a ∈ as, ∃ o, h.get? a = some o ∧ ¬ Tup o :=
  RD.both (fun _ q => nomatch q) (fun _ _ q => nomatch q) (fun _ _ _ q => nomatch q) (fun _ _ _ q => nomatch q) (fun a _ r b q => (List.mem_cons.mp q).elim (fun e => ⟨_, e ▸ a, not_tup_lst _ _⟩) (r b)) (fun _ _ _ r b q => r b q)
    (fun p _ _ _ r b q => (List.mem_cons.mp q).elim (fun e => by obtain ⟨o, _, _, ho, hx, _⟩ := p; exact ⟨o, e ▸ ho, not_tup_dct hx.1⟩) (r b)) (fun i c q => by obtain ⟨m, t, u, i, _⟩ := i; exact i.alive c q) (fun i _ r c q => (List.mem_append.mp q).elim (i.alive c) (r c)) (fun {a dx _ _ _ _ _ as} i _ _ _ _ r c q => (List.mem_append.mp (show c ∈ [a, dx] ++ as from q)).elim (i.alive c) (r c)) (fun _ q => nomatch q) (fun _ _ a r b q => (List.mem_append.mp q).elim (a b) (r b))
section
variable {s₀ s : Shared} {X : List Addr} {env : Env} {C : List Addr} {ρ : Rho} {O : List (String × List Addr)}
theorem InS.put (I : InS prog w Hz hb s₀ X env C ρ O s) {t : Shared} (kt : Keeps s t) {x : String} {ro : Option Addr} {ad : Addr} {d y y' : PyData} {a : Addr} {as b₀ b' : List Addr} {up : PyData → PyData} {h' : Heap} (tk : Nat) (hx : ρ x = some (.own (.tree ro d))) (hO : O.lookup x = some as) (nd : as.Nodup)
    (hu : RD prog w Hz t.heap (.ref ad) d as) (H : Hole prog w Hz t.heap (.ref ad) d as (.ref a) y (a :: b₀) up) (hs : ∀ c o, t.heap.get? c = some o → c ≠ a → h'.get? c = some o) (hy : RD prog w Hz h' (.ref a) y' (a :: b'))
    (hb' : ∀ c ∈ b', c ∈ b₀ ∨ s.heap.get? c = none) (nd' : b'.Nodup) (hw : wf y' = true) (hno : isNode y' = true := by rfl) :
    ∃ O', InS prog w Hz hb s₀ X env C (ρ.set x (.own (.tree ro (up y')))) O' { s with heap := h', toks := tk } ∧ Step s.heap h' (WW env C O) (WW env C O') := by
  obtain ⟨l, m, e, f⟩ := H.split
  have al : ∀ c ∈ as, ∃ o, t.heap.get? c = some o ∧ ¬ Tup o := nontup_both.1 hu
  have al0 : ∀ c ∈ as, ∃ o, s.heap.get? c = some o ∧ ¬ Tup o := fun c hc => I.walive c (own_sub hO hc)
  have gt := keeps_grow kt
  have al' := nontup_both.1 hy
  have ha : a ∈ as := by rw [e]; simp
  have hsub : ∀ c ∈ b₀, c ∈ as := fun c hc => by rw [e]; simp [hc]
  have hl : ∀ c ∈ l, c ∈ as := fun c hc => by rw [e]; simp [hc]
  have hm : ∀ c ∈ m, c ∈ as := fun c hc => by rw [e]; simp [hc]
  have nda : a ∉ l ∧ a ∉ m ∧ a ∉ b₀ ∧ l.Nodup ∧ m.Nodup ∧ (∀ c ∈ l, c ∉ b₀ ∧ c ∉ m) ∧ ∀ c ∈ b₀, c ∉ m := by
    rw [e] at nd
    simp only [List.nodup_append, List.cons_append, List.nodup_cons, List.mem_append, List.mem_cons, not_or] at nd
    obtain ⟨n1, ⟨⟨n2, n3⟩, n4, n5, n6⟩, n7⟩ := nd
    exact ⟨fun q => n7 a q a (.inl rfl) rfl, n3, n2, n1, n5, fun c hc => ⟨fun q => n7 c hc c (.inr (.inl q)) rfl, fun q => n7 c hc c (.inr (.inr q)) rfl⟩, fun c hc q => n6 c hc c q rfl⟩
  have hfresh : ∀ c ∈ as, ∀ c', s.heap.get? c' = none → c ≠ c' := fun c hc c' h0 q => by
    obtain ⟨o, ho, _⟩ := al0 c hc
    rw [q, h0] at ho; exact no ho
  have hab : a ∉ b' := fun q => (hb' a q).elim nda.2.2.1 fun h0 => hfresh a ha a h0 rfl
  have old : ∀ c ∈ as, ∃ o, h'.get? c = some o ∧ ¬ Tup o := fun c hc => by
    by_cases q : c = a
    · subst q; exact al' c (.head _)
    · obtain ⟨o, ho, ht⟩ := al c hc; exact ⟨o, hs c o ho q, ht⟩
  have new : ∀ c ∈ l ++ (a :: b' ++ m), (c ∈ as ∨ s.heap.get? c = none) ∧ ∃ o, h'.get? c = some o ∧ ¬ Tup o := by
    intro c hc
    simp only [List.mem_append, List.cons_append, List.mem_cons] at hc
    rcases hc with hc | hc | hc | hc
    · exact ⟨.inl (hl c hc), old c (hl c hc)⟩
    · subst hc; exact ⟨.inl ha, old c ha⟩
    · exact ⟨(hb' c hc).imp (hsub c) id, al' c (.tail _ hc)⟩
    · exact ⟨.inl (hm c hc), old c (hm c hc)⟩
  have ndn : (l ++ (a :: b' ++ m)).Nodup := by
    simp only [List.nodup_append, List.cons_append, List.nodup_cons, List.mem_append, List.mem_cons, not_or]
    refine ⟨nda.2.2.2.1, ⟨⟨hab, nda.2.1⟩, nd', nda.2.2.2.2.1, fun c hc c' hc' q => ?_⟩, fun c hc c' hc' q => ?_⟩
    · subst q
      rcases hb' c hc with h0 | h0
      · exact nda.2.2.2.2.2.2 c h0 hc'
      · exact hfresh c (hm c hc') c h0 rfl
    · subst q
      rcases hc' with hc' | hc' | hc'
      · subst hc'; exact nda.1 hc
      · rcases hb' c hc' with h0 | h0
        · exact (nda.2.2.2.2.2.1 c hc).1 h0
        · exact hfresh c (hl c hc) c h0 rfl
      · exact (nda.2.2.2.2.2.1 c hc).2 hc'
  have hs' : ∀ c o, s.heap.get? c = some o → c ∉ as → h'.get? c = some o := fun c o q hc => hs c o (gt c o q) fun q' => hc (q' ▸ ha)
  have hr : ∀ a', RD prog w Hz s.heap (.ref a') d as → RD prog w Hz h' (.ref a') (up y') (l ++ (a :: b' ++ m)) := by
    intro a' hu'
    have euu : a' = ad := by
      obtain ⟨_, q1⟩ := node_head hu' H.own
      obtain ⟨_, q2⟩ := node_head hu H.own
      rw [q1] at q2
      exact (List.cons.inj q2).1
    rw [euu]
    refine f h' y' (a :: b') (fun c o q p => ?_) hy
    rcases p with p | p
    · refine hs c o q fun q' => ?_
      rw [q'] at p
      exact (List.mem_append.mp p).elim nda.1 nda.2.1
    · refine hs c o q fun q' => ?_
      obtain ⟨o', ho', ht⟩ := al a ha
      rw [q', ho'] at q; (have e := si q; subst e; clear q); exact ht p
  exact ⟨_, I.updTree hx hO hs' (fun c hc => (old c hc).imp fun _ q => q.1) new ndn (H.wfu _ hw) (H.top _ hno) hr, tree_step hO hs' fun c hc => (new c hc).1⟩
end
noncomputable def place (x k : PyData) : Option (PyData × (PyData → PyData)) := match x with
  | .dict kvs => (keyOf k).bind fun key => (atKey key kvs).map fun y => (y, fun z => .dict (putD key z kvs))
  | .list xs => (intOf k).bind fun i => if 0 ≤ i then (xs[i.toNat]?).map fun y => (y, fun z => .list (xs.set i.toNat z)) else none
  | _ => none
noncomputable def Pa (prog : Program) (w : World) (hb : Heap) (n : Nat) (sc : Scope) (x : String) (e : Expr) (m : Rho → PyData → Option (PyData × (PyData → PyData))) : Prop :=
  ∀ ⦃A : Around⦄ ⦃Hz : List Addr⦄ ⦃env : Env⦄ ⦃s₀ : Shared⦄ ⦃X C : List Addr⦄ ⦃ρ : Rho⦄ ⦃O : List (String × List Addr)⦄ ⦃s : Shared⦄ ⦃ro : Option Addr⦄ ⦃d y : PyData⦄ ⦃up : PyData → PyData⦄ ⦃Q : Value → Shared → Prop⦄ ⦃E : Value → Shared → Prop⦄,
    env.scope = sc → RoomF A n → InS prog w Hz hb s₀ X env C ρ O s → ρ x = some (.own (.tree ro d)) → m ρ d = some (y, up) →
    (∀ ad as v b s', Keeps s s' → O.lookup x = some as → as.Nodup → RD prog w Hz s'.heap (.ref ad) d as → Hole prog w Hz s'.heap (.ref ad) d as v y b up → Q v s') → wpAny (model prog w) A (eval e env) Q E s
theorem Pa.name {x : String} {pos : Pos} (hv : isVar sc x = true) : Pa prog w hb n sc x (.Name (Str.ofString x) pos) (fun _ d => some (d, id)) := by
  intro A Hz env s₀ X C ρ O s ro d y up Q E hs hA I hx hm hQ
  cases hm
  exact I.ownedT (by rw [hs]; exact hv) hx fun ad as hO r nd c hn => hQ ad as _ as s (keeps_refl s) hO nd r (Hole.root r c hn)
theorem Pa.idx {x : String} {e i : Expr} {pos : Pos} {m : Rho → PyData → Option (PyData × (PyData → PyData))} {mi : Rho → Option V} (h : Pa prog w hb n sc x e m) (hi : Ev prog w hb n sc i mi) (hs' : ∀ o j, ∃ ops, subscripted i false o j = operate ops (getItem o j)) :
    Pa prog w hb n sc x (.Subscript e i pos) (fun ρ d => (m ρ d).bind fun p => (mi ρ).bind fun k => (place p.1 k.x).map fun q => (q.1, fun z => p.2 (q.2 z))) := by
  intro A Hz env s₀ X C ρ O s ro d y up Q E hs hA I hx
  refine bindI fun z0 hz => bindI fun z1 hk hm hQ => ?_
  obtain ⟨z, up₀⟩ := z0
  obtain ⟨k, kf⟩ := z1
  obtain ⟨⟨y', f⟩, hp, hm⟩ := Option.map_eq_some_iff.mp hm
  cases hm
  dsimp only at hp
  refine PyProof.Rows.Subscript_ (h hs hA I hx hz fun ad as v b s₁ k₁ hO nd r H => hi hs hA (I.grow k₁).toInF hk fun u' s₂ k₂ r₂ => ?_)
  obtain ⟨ops, eo⟩ := hs' v u'
  obtain ⟨ks, rk, _, _⟩ := r₂
  have H := H.grow (keeps_grow k₂)
  have r := r.grow (keeps_grow k₂)
  have kk := keeps_trans k₁ k₂
  cases z with
  | dict kvs =>
    obtain ⟨key, e1, hp⟩ := bindE hp
    obtain ⟨y'', e2, e3⟩ := Option.map_eq_some_iff.mp hp
    cases e3
    have H := keyOf_some e1; clear e1; subst H
    have H := rk.strI; clear rk; induction H with | mk t => ?_
    induction H.key e2 with | mk a kvs' v' b' b1 b2 b3 H' => ?_
    exact PyProof.Rows.tail_any (T := "dict") b1.typeIs slot_dict_getitem.lookup (wpAny_getItem_of (strKey _ _) b1.mapOf b3 (hQ ad as v' b' _ (keeps_trans kk (keeps_toks s₂ _)) hO nd r H')) eo
  | list xs =>
    obtain ⟨i', e1, hp2⟩ := bindE hp
    clear hp
    obtain rfl := intOf_some e1
    have H := rk.intI; clear rk; induction H with | mk t => ?_
    split at hp2
    · rename_i hi0
      obtain ⟨y'', e2, e3⟩ := Option.map_eq_some_iff.mp hp2
      cases e3
      induction H.item e2 with | mk a vs n' v' b' b1 b2 b3 H' => ?_
      have hz := sizeLine_small
      have c := (wf_list.mp H.wfn).1
      have hlt := (List.getElem?_eq_some_iff.mp b3).1
      exact PyProof.Rows.tail_any (T := "list") ⟨_, b1, rfl⟩ list_getitem_lookup (wpAny_getItem_list ⟨_, b1, rfl, _, rfl⟩ hi0 (by lia) (by simpa using b3) (hQ ad as v' b' _ kk hO nd r H')) eo
    · exact no hp2
  | _ => exact no hp
noncomputable def treeOf (ρ : Rho) (x : String) : Option (Option Addr × PyData) := match ρ x with
  | some (.own (.tree a d)) => some (a, d)
  | _ => none
theorem treeOf_some {ρ : Rho} {x : String} {d : Option Addr × PyData} (h : treeOf ρ x = some d) : ρ x = some (.own (.tree d.1 d.2)) := by
  unfold treeOf at h
  split at h
  · rename_i e; (have e := si h; subst e; clear h); exact e
  · exact no h
noncomputable def listOfD : PyData → Option (List PyData)
  | .list xs => some xs
  | _ => none
theorem listOfD_some {x : PyData} {xs : List PyData} (h : listOfD x = some xs) : x = .list xs := by
  cases x with
  | list k => (have e := si h; subst e; clear h); rfl
  | _ => exact no h
theorem Hole.nodup {h : Heap} {u v : Value} {d x : PyData} {as b : List Addr} {up : PyData → PyData} (H : Hole prog w Hz h u d as v x b up) (nd : as.Nodup) : b.Nodup := by
  obtain ⟨l, m, e, _⟩ := H.split
  rw [e, List.nodup_append, List.nodup_append] at nd
  exact nd.2.1.1
theorem kept_below {h h' : Heap} {a : Addr} {b₀ : List Addr} (nd : (a :: b₀).Nodup) (hs : ∀ c o, h.get? c = some o → c ≠ a → h'.get? c = some o) (ha : ∃ o, h.get? a = some o ∧ ¬ Tup o) : KeptAt h h' b₀ := by
  rw [List.nodup_cons] at nd
  intro c o e q
  refine hs c o e fun q' => ?_
  subst q'
  rcases q with q | q
  · exact nd.1 q
  · obtain ⟨o', e', t⟩ := ha
    rw [e] at e'; (have e := si e'; subst e; clear e'); exact t q
theorem upd_all {h : Heap} {a : Addr} {f : Obj → Obj} : ∀ c o, h.get? c = some o → c ≠ a → (h.update a f).get? c = some o := fun c _ e hc => ((Heap.SameBut.update h a f).2 c hc).trans e
noncomputable def mAppend (x : String) (mp : Rho → PyData → Option (PyData × (PyData → PyData))) (m : Rho → Option V) : Rho → Option Out := fun ρ => (treeOf ρ x).bind fun d => (mp ρ d.2).bind fun p => (listOfD p.1).bind fun xs => (m ρ).bind fun v => if flat v.x = true ∧ xs.length + 1 ≤ sizeLine then some (.next (ρ.set x (.own (.tree d.1 (p.2 (.list (xs ++ [v.x]))))))) else none
theorem S1.pAppend {x : String} {pe e : Expr} {ap cp pos : Pos} {mp : Rho → PyData → Option (PyData × (PyData → PyData))} {m : Rho → Option V} (hp : Pa prog w hb n sc x pe mp) (h : Ev prog w hb n sc e m) (he : ∀ env, starEach [e] env = [(false, eval e env)]) (hl : (ap.endLine == cp.line) = true)
    (hbase : ∀ env : Env, attributeBase pe (Str.ofString "append") env (eval pe env) = eval pe env) (hi : ∀ env : Env, env.scope = sc → interactive env = false) :
    S1 prog w hb n sc (.Expr (.Call (.Attribute pe (Str.ofString "append") ap) [e] [] cp) pos)
      (mAppend x mp m) := by
  intro A Hz env s₀ X C ρ O s r Q E hs hA I
  refine bindI fun d hd => bindI fun z1 hy => bindI fun xs hxs => bindI fun v hv hm hQ => ?_
  obtain ⟨y, up⟩ := z1
  obtain rfl := listOfD_some hxs
  have hx := treeOf_some hd
  revert hm
  refine ifI fun hz hm => ?_
  · cases hm
    refine wpAny_Expr (wpAny_Call_method (hbase env) (by rw [he]; rfl) hl F.plainAttrs_list F.slot_list_append F.type_list_append (hp hs hA I hx hy fun ad as v' b s₁ k₁ hO nd r H => ?_)) (hi env hs)
    induction H.node.listI with | mk a vs k b₀ a1 a2 => ?_
    refine ⟨⟨_, a1, rfl⟩, fun a' ea => by cases ea; exact ⟨_, a1, rfl⟩, ?_⟩
    rw [he]
    show wpAny _ _ (callWith cp (.builtin "list.append") [.ref a] [(false, eval e env)] []) _ _ _
    refine P.append_list (h hs hA (I.grow k₁).toInF hv fun uu s₂ k₂ r₂ => ?_)
    obtain ⟨bs, rv, cv, _⟩ := r₂
    obtain rfl := rv.flat_foot hz.1
    have I₂ := (I.grow k₁).grow k₂
    have g := keeps_grow k₂
    have H := H.grow g
    have a1 := g _ _ a1
    have a2 := a2.grow g
    have c := wf_list.mp H.wfn
    refine ⟨vs.toArray, k, by simp [a2.length]; exact c.1, a1, ?_⟩
    obtain ⟨k', ek⟩ := mapSeq_lst vs k (fun xs => xs.push uu)
    have hnew : (s₂.heap.update a (Obj.mapSeq fun xs => xs.push uu)).get? a = some (lstObj (vs ++ [uu]) k') := by
      rw [Heap.get?_update_self _ a1 rfl, ek]; simp
    have kb := kept_below (H.nodup nd) (upd_all (h := s₂.heap) (a := a) (f := Obj.mapSeq fun xs => xs.push uu)) ⟨_, a1, not_tup_lst _ _⟩
    have hyn : RD prog w Hz (s₂.heap.update a (Obj.mapSeq fun xs => xs.push uu)) (.ref a) (.list (xs ++ [v.x])) (a :: (b₀ ++ [])) :=
      .list hnew ((kept_both.2 a2 kb).append (.cons (as := []) (kept_both.1 rv (kb.mono fun _ q => nomatch q)) .nil))
    obtain ⟨O', I', T'⟩ := I₂.put (keeps_refl s₂) s₂.toks hx hO nd (r.grow g) H upd_all hyn (fun c hc => .inl (by simpa using hc)) (by simpa using (List.nodup_cons.mp (H.nodup nd)).2) (wf_list.mpr ⟨by simpa using hz.2, by rw [wfs_append, c.2]; simp [wfs, cv]⟩)
    exact hQ O' _ I' ((Step.of_grow (keeps_grow (keeps_trans k₁ k₂))).trans T')
noncomputable def mAppendL (x : String) (mp : Rho → PyData → Option (PyData × (PyData → PyData))) (ms : Rho → Option (List V)) : Rho → Option Out := fun ρ => (treeOf ρ x).bind fun d => (mp ρ d.2).bind fun p => (listOfD p.1).bind fun xs => (ms ρ).bind fun vs => if flats (vs.map (·.x)) = true ∧ vs.length ≤ sizeLine ∧ xs.length + 1 ≤ sizeLine then some (.next (ρ.set x (.own (.tree d.1 (p.2 (.list (xs ++ [.list (vs.map (·.x))]))))))) else none
theorem S1.pAppendL {x : String} {pe : Expr} {es : List Expr} {lp ap cp pos : Pos} {mp : Rho → PyData → Option (PyData × (PyData → PyData))} {ms : Rho → Option (List V)} (hp : Pa prog w hb n sc x pe mp) (h : Evs prog w hb n sc es ms) (he : ∀ env, starEach [.List es lp] env = [(false, eval (.List es lp) env)]) (hl : (ap.endLine == cp.line) = true)
    (hbase : ∀ env : Env, attributeBase pe (Str.ofString "append") env (eval pe env) = eval pe env) (hi : ∀ env : Env, env.scope = sc → interactive env = false) :
    S1 prog w hb n sc (.Expr (.Call (.Attribute pe (Str.ofString "append") ap) [.List es lp] [] cp) pos)
      (mAppendL x mp ms) := by
  intro A Hz env s₀ X C ρ O s r Q E hs hA I
  refine bindI fun d hd => bindI fun z1 hy => bindI fun xs hxs => bindI fun ws hv hm hQ => ?_
  obtain ⟨y, up⟩ := z1
  obtain rfl := listOfD_some hxs
  have hx := treeOf_some hd
  revert hm
  refine ifI fun hz hm => ?_
  · cases hm
    refine wpAny_Expr (wpAny_Call_method (hbase env) (by rw [he]; rfl) hl F.plainAttrs_list F.slot_list_append F.type_list_append (hp hs hA I hx hy fun ad as v' b s₁ k₁ hO nd r H => ?_)) (hi env hs)
    induction H.node.listI with | mk a vs k b₀ a1 a2 => ?_
    refine ⟨⟨_, a1, rfl⟩, fun a' ea => by cases ea; exact ⟨_, a1, rfl⟩, ?_⟩
    rw [he]
    show wpAny _ _ (callWith cp (.builtin "list.append") [.ref a] [(false, eval (.List es lp) env)] []) _ _ _
    refine P.append_list (wpAny_List (h hs hA (I.grow k₁).toInF hv fun us s₂ k₂ r₂ => ⟨by rw [r₂.length]; exact hz.2.1, ?_⟩))
    obtain ⟨bs, rv, cv, _⟩ := r₂.rds
    obtain rfl := rv.flat_foot hz.1
    have I₂ := (I.grow k₁).grow k₂
    have g := keeps_grow k₂
    have H := H.grow g
    have a1 := g _ _ a1
    have a2 := a2.grow g
    have c := wf_list.mp H.wfn
    have gp := Grow.push s₂.heap (lstObj us 0)
    have hD0 : s₂.heap.get? s₂.heap.objs.size = none := get?_size_none _ (Nat.le_refl _)
    have hDa : s₂.heap.objs.size ≠ a := fun q => by rw [q, a1] at hD0; cases hD0
    refine ⟨vs.toArray, k, by simp [a2.length]; exact c.1, gp _ _ a1, ?_⟩
    generalize hDD : s₂.heap.objs.size = D at *
    obtain ⟨k', ek⟩ := mapSeq_lst vs k (fun xs => xs.push (.ref D))
    generalize hh : (s₂.heap.push (lstObj us 0)).update a (Obj.mapSeq fun xs => xs.push (.ref D)) = h' at *
    have hnew : h'.get? a = some (lstObj (vs ++ [.ref D]) k') := by
      rw [← hh, Heap.get?_update_self _ (gp _ _ a1) rfl, ek]; simp
    have hall : ∀ c o, s₂.heap.get? c = some o → c ≠ a → h'.get? c = some o := fun c o q hc => by rw [← hh]; exact upd_all c o (gp c o q) hc
    have hDn : h'.get? D = some (lstObj us 0) := by
      rw [← hh]
      exact upd_all D _ (by rw [← hDD]; exact Heap.get?_push_size _ rfl) hDa
    have kb := kept_below (H.nodup nd) hall ⟨_, a1, not_tup_lst _ _⟩
    have hyn : RD prog w Hz h' (.ref a) (.list (xs ++ [.list (ws.map (·.x))])) (a :: (b₀ ++ ([D] ++ []))) :=
      .list hnew ((kept_both.2 a2 kb).append (.cons (.list hDn (kept_both.2 rv (kb.mono fun _ q => nomatch q))) .nil))
    have hDb : ∀ c ∈ b₀, c ≠ D := fun c hc q => by
      obtain ⟨o, ho⟩ := a2.alive c hc
      rw [q, hD0] at ho; exact no ho
    obtain ⟨O', I', T'⟩ := I₂.put (keeps_refl s₂) s₂.toks hx hO nd (r.grow g) H hall hyn (fun c hc => by
      rcases List.mem_append.mp hc with hc | hc
      · exact .inl hc
      · rw [List.append_nil, List.mem_singleton] at hc
        exact .inr (hc ▸ hD0)) (by
      rw [List.append_nil, List.nodup_append]
      exact ⟨(List.nodup_cons.mp (H.nodup nd)).2, by simp, fun c hc c' hc' q => hDb c hc (q.trans (List.mem_singleton.mp hc'))⟩) (wf_list.mpr ⟨by simpa using hz.2.2, by
      rw [wfs_append, c.2]
      have : wf (.list (ws.map (·.x))) = true := wf_list.mpr ⟨by simpa using hz.2.1, cv⟩
      simp [wfs, this]⟩)
    exact hQ O' _ I' ((Step.of_grow (keeps_grow (keeps_trans k₁ k₂))).trans T')
theorem RDs.setAt {h : Heap} {vs : List Value} {xs : List PyData} {as : List Addr} (r : RDs prog w Hz h vs xs as) {i : Nat} (hi : i < xs.length) {u : Value} {y : PyData} {bs : List Addr} (ru : RD prog w Hz h u y bs) :
    ∃ l b m, as = l ++ (b ++ m) ∧ RDs prog w Hz h (vs.set i u) (xs.set i y) (l ++ (bs ++ m)) := by
  refine RDs.ind (R := fun vs xs as => ∀ i : Nat, i < xs.length → ∃ l b m, as = l ++ (b ++ m) ∧ RDs prog w Hz h (vs.set i u) (xs.set i y) (l ++ (bs ++ m))) (fun i e => by simp at e) (fun {v vs x xs as cs} a q r i e => ?_) r i hi
  induction i with
  | zero => exact ⟨[], as, cs, rfl, show RDs prog w Hz h (u :: vs) (y :: xs) (bs ++ cs) from .cons ru q⟩
  | succ i =>
    obtain ⟨l, b, m, h2, h4⟩ := r i (Nat.lt_of_succ_lt_succ e)
    refine ⟨as ++ l, b, m, by rw [h2, List.append_assoc], ?_⟩
    rw [List.append_assoc]
    exact .cons a h4
noncomputable def setD (k : Str) (y : PyData) (kvs : List (PyData × PyData)) : List (PyData × PyData) := if hasKey k kvs then putD k y kvs else kvs ++ [(.str k, y)]
theorem key_at {k : Str} : ∀ {ys : List (Str × PyData)}, hasKey k (ys.map fun p => (.str p.1, p.2)) = true → ∃ i, (ys.map (·.1))[i]? = some k ∧ ∀ y, putD k y (ys.map fun p => (.str p.1, p.2)) = (ys.set i (k, y)).map fun p => (.str p.1, p.2)
  | [], h => by cases h
  | q :: ys, h => by
    change (decide (q.1 = k) || hasKey k (ys.map fun p => (.str p.1, p.2))) = true at h
    by_cases hk : q.1 = k
    · refine ⟨0, by simp [hk], fun y => ?_⟩
      show (if q.1 = k then (PyData.str q.1, y) :: _ else _) = _
      rw [if_pos hk, hk]; rfl
    · rw [decide_eq_false hk, Bool.false_or] at h
      obtain ⟨i, h1, h2⟩ := key_at h
      refine ⟨i + 1, h1, fun y => ?_⟩
      show (if q.1 = k then _ else (PyData.str q.1, q.2) :: putD k y _) = _
      rw [if_neg hk, h2 y]; rfl
theorem stored_hit {ks : List (Str × Value)} {k : Str} {u : Value} {i : Nat} (nd : (ks.map (·.1)).Nodup) (hi : (ks.map (·.1))[i]? = some k) : stored ks k u = ks.set i (k, u) := by
  have hany : ks.any (fun kv => decide (kv.1 = k)) = true := by
    obtain ⟨p, hp, e⟩ := List.mem_map.mp (List.mem_of_getElem? hi)
    exact List.any_eq_true.mpr ⟨p, hp, by simpa using e⟩
  unfold stored
  rw [if_pos hany]
  refine List.ext_getElem? fun j => ?_
  rw [List.getElem?_map, List.getElem?_set]
  by_cases hj : i = j
  · subst hj
    rw [if_pos rfl]
    rw [List.getElem?_map] at hi
    obtain ⟨p, hp, e⟩ := Option.map_eq_some_iff.mp hi
    rw [hp, if_pos (List.getElem?_eq_some_iff.mp hp).1]
    simp [e]
  · rw [if_neg hj]
    cases hp : ks[j]? with
    | none => rfl
    | some p =>
      have : ¬ p.1 = k := fun e => by
        have h2 : (ks.map (·.1))[j]? = some k := by rw [List.getElem?_map, hp]; exact congrArg some e
        obtain ⟨h3, _⟩ := List.getElem?_eq_some_iff.mp hi
        exact hj ((List.getElem?_inj h3 nd).mp (hi.trans h2.symm))
      simp [this]
theorem hasKey_keys {k : Str} : ∀ {ys : List (Str × PyData)}, hasKey k (ys.map fun p => (.str p.1, p.2)) = false → ∀ p ∈ ys, p.1 ≠ k
  | [], _, _, h => nomatch h
  | q :: ys, h, p, hp => by
    change (decide (q.1 = k) || hasKey k (ys.map fun p => (.str p.1, p.2))) = false at h
    rw [Bool.or_eq_false_iff] at h
    rcases List.mem_cons.mp hp with rfl | hp
    · exact of_decide_eq_false h.1
    · exact hasKey_keys h.2 p hp
theorem dict_set {h' : Heap} {a : Addr} {ks : List (Str × Value)} {ys : List (Str × PyData)} {b₀ bs : List Addr} {k : Str} {u : Value} {y : PyData} (nd : (ks.map (·.1)).Nodup) (hm : (a == sysModules) = false) (hk : ks.map (·.1) = ys.map (·.1)) (r : RDs prog w Hz h' (ks.map (·.2)) (ys.map (·.2)) b₀)
    (ru : RD prog w Hz h' u y bs) (hd : h'.DictOf (strKind prog w) a (stored ks k u)) (n0 : b₀.Nodup) (nb : bs.Nodup) (hdis : ∀ c ∈ bs, c ∉ b₀) :
    ∃ b', RD prog w Hz h' (.ref a) (.dict (setD k y (ys.map fun p => (.str p.1, p.2)))) (a :: b') ∧ b'.Nodup ∧ ∀ c ∈ b', c ∈ b₀ ∨ c ∈ bs := by
  unfold setD
  cases hh : hasKey k (ys.map fun p => (.str p.1, p.2)) with
  | true =>
    rw [if_pos rfl]
    obtain ⟨i, h1, h2⟩ := key_at hh
    rw [h2 y]
    have hil : i < (ys.map (·.2)).length := by
      have := (List.getElem?_eq_some_iff.mp h1).1
      simpa using this
    obtain ⟨l, b, m, e, r'⟩ := r.setAt hil ru
    rw [stored_hit nd (by rw [hk]; exact h1)] at hd
    have hset : ∀ {β : Type} (zs : List (Str × β)) (v : β), zs.map (·.1) = ys.map (·.1) → (zs.set i (k, v)).map (·.1) = ys.map (·.1) := by
      intro β zs v hz
      rw [List.map_set, hz]
      refine List.ext_getElem? fun j => ?_
      rw [List.getElem?_set]
      split
      · rename_i q; subst q
        rw [if_pos (by simpa using hil), h1]
      · rfl
    refine ⟨l ++ (bs ++ m), RD.dict (xs := ys.set i (k, y)) hd hm ((hset ks u hk).trans (hset ys y rfl).symm) (by rw [List.map_set, List.map_set]; exact r'), ?_, fun c hc => ?_⟩
    · rw [e] at n0 hdis
      rw [List.nodup_append, List.nodup_append] at n0 ⊢
      refine ⟨n0.1, ⟨nb, n0.2.1.2.1, fun c hc c' hc' q => hdis c hc (by rw [q]; simp [hc'])⟩, fun c hc c' hc' q => ?_⟩
      rcases List.mem_append.mp hc' with hc' | hc'
      · exact hdis c' hc' (by rw [← q]; simp [hc])
      · exact n0.2.2 c hc c' (List.mem_append_right _ hc') q
    · rw [e]
      simp only [List.mem_append] at hc ⊢
      rcases hc with hc | hc | hc
      · exact .inl (.inl hc)
      · exact .inr hc
      · exact .inl (.inr (.inr hc))
  | false =>
    rw [if_neg (by simp)]
    have hne := hasKey_keys hh
    have hst : stored ks k u = ks ++ [(k, u)] := by
      unfold stored
      rw [if_neg]
      intro q
      obtain ⟨p, hp, e⟩ := List.any_eq_true.mp q
      have : p.1 ∈ ys.map (·.1) := by rw [← hk]; exact List.mem_map.mpr ⟨p, hp, rfl⟩
      obtain ⟨p', hp', e'⟩ := List.mem_map.mp this
      exact hne p' hp' (e'.trans (of_decide_eq_true e))
    rw [hst] at hd
    refine ⟨b₀ ++ (bs ++ []), ?_, ?_, fun c hc => ?_⟩
    · have := RD.dict (xs := ys ++ [(k, y)]) hd hm (by rw [List.map_append, List.map_append, hk]; rfl) (by rw [List.map_append, List.map_append]; exact r.append (.cons ru .nil))
      rw [show (dictOf (ys ++ [(k, y)])) = .dict ((ys.map fun p => (PyData.str p.1, p.2)) ++ [(.str k, y)]) by unfold dictOf; rw [List.map_append]; rfl] at this
      exact this
    · rw [List.append_nil, List.nodup_append]
      exact ⟨n0, nb, fun c hc c' hc' q => hdis c' hc' (q ▸ hc)⟩
    · rw [List.append_nil] at hc
      exact List.mem_append.mp hc
theorem wf_setD {k : Str} {y : PyData} {kvs : List (PyData × PyData)} (h : wf (.dict kvs) = true) (hk : wf (.str k) = true) (hy : wf y = true) (hz : kvs.length + 1 ≤ sizeLine) : wf (.dict (setD k y kvs)) = true := by
  unfold setD
  split
  · exact wf_putD h hy
  · simp only [wf, Bool.and_eq_true, decide_eq_true_eq] at h ⊢
    refine ⟨by simpa using hz, wfk_mem.mpr fun p hp => ?_⟩
    rcases List.mem_append.mp hp with q | q
    · exact wfk_mem.mp h.2 p q
    · rw [List.mem_singleton.mp q]; exact ⟨by simpa [wf] using hk, hy⟩
section
variable {s₀ s t : Shared} {X : List Addr} {env : Env} {C : List Addr} {ρ : Rho} {O : List (String × List Addr)}
theorem InS.putKey {A : Around} {E : Value → Shared → Prop} {Q : Unit → Shared → Prop} (I : InS prog w Hz hb s₀ X env C ρ O s) (kt : Keeps s t) {x : String} {ro : Option Addr} {ad : Addr} {d y : PyData} {v : Value} {kvs : List (PyData × PyData)} {as b bs : List Addr} {up : PyData → PyData} {k : Str} {tk : Tok} {z : Value} (hx : ρ x = some (.own (.tree ro d))) (hO : O.lookup x = some as)
    (nd : as.Nodup) (hu : RD prog w Hz t.heap (.ref ad) d as) (H : Hole prog w Hz t.heap (.ref ad) d as v (.dict kvs) b up) (rv : RD prog w Hz t.heap z y bs) (hbs : ∀ c ∈ bs, s.heap.get? c = none) (nb : bs.Nodup) (hwy : wf y = true) (hwk : wf (.str k) = true) (hsz : kvs.length + 1 ≤ sizeLine) (hpk : plainK kvs = true)
    (hQ : ∀ O' s', InS prog w Hz hb s₀ X env C (ρ.set x (.own (.tree ro (up (.dict (setD k y kvs)))))) O' s' → Step s.heap s'.heap (WW env C O) (WW env C O') → Q () s') : wpAny (model prog w) A (setItem v (.str k tk) z) Q E t := by
  induction H.node.dictI hpk with | mk a ks ys b₀ b1 b2 b3 b4 => ?_
  have hlen : ks.length = ys.length := by simpa using congrArg List.length b3
  refine wpAny_setItem_pairs (knd := strKind prog w) (strKey _ _) b1 (fun h' hm' hs' => ?_) (by rw [hlen]; simp at hsz; lia)
  have hall : ∀ c o, t.heap.get? c = some o → c ≠ a → h'.get? c = some o := fun c o q hc => (hs'.2 c hc).trans q
  have nda := H.nodup nd
  have haT : ∃ o, t.heap.get? a = some o ∧ ¬ Tup o := nontup_both.1 H.node a (.head _)
  have kb := kept_below nda hall haT
  have hfr : ∀ c ∈ bs, c ∉ as := fun c hc q => by
    obtain ⟨o, ho, _⟩ := I.walive c (own_sub hO q)
    rw [hbs c hc] at ho; exact no ho
  have hsub : ∀ c ∈ a :: b₀, c ∈ as := fun c hc => by
    obtain ⟨l, m, e, _⟩ := H.split
    rw [e]; exact List.mem_append_right _ (List.mem_append_left _ hc)
  have kv : KeptAt t.heap h' bs := fun c o q p => hall c o q fun q' => by
    subst q'
    rcases p with p | p
    · exact hfr c p (hsub c (.head _))
    · obtain ⟨o', ho', ht⟩ := haT
      rw [q] at ho'; (have e := si ho'; subst e; clear ho'); exact ht p
  have ndk : (ks.map (·.1)).Nodup := let ⟨_, _, _, _, _, _, _, _, q⟩ := b1; q
  obtain ⟨b', n1, n2, n3⟩ := dict_set (k := k) ndk b2 b3 (kept_both.2 b4 kb) (kept_both.1 rv kv) hm' (List.nodup_cons.mp nda).2 nb (fun c hc q => hfr c hc (hsub c (.tail _ q)))
  obtain ⟨O', I', T'⟩ := I.put kt (t.toks + 1) hx hO nd hu H hall n1 (fun c hc => (n3 c hc).imp id (hbs c)) n2 (wf_setD H.wfn hwk hwy hsz)
  obtain ⟨h1, t1, rfl, _⟩ := kt
  exact hQ O' _ I' T'
end
noncomputable def mSet (x : String) (mp : Rho → PyData → Option (PyData × (PyData → PyData))) (mi m : Rho → Option V) : Rho → Option Out := fun ρ => (treeOf ρ x).bind fun d => (m ρ).bind fun v => (mp ρ d.2).bind fun q => (dictOfD q.1).bind fun kvs => (mi ρ).bind fun k => (keyOf k.x).bind fun key => if flat v.x = true ∧ kvs.length + 1 ≤ sizeLine then some (.next (ρ.set x (.own (.tree d.1 (q.2 (.dict (setD key v.x kvs))))))) else none
theorem S1.pSet {x : String} {pe i e : Expr} {p pos : Pos} {mp : Rho → PyData → Option (PyData × (PyData → PyData))} {mi m : Rho → Option V} (hp : Pa prog w hb n sc x pe mp) (hi : Ev prog w hb n sc i mi) (h : Ev prog w hb n sc e m) (hsw : ∀ env : Env, swapsWith e (some (.Subscript pe i p)) pos.line env = pure false) :
    S1 prog w hb n sc (.Assign [.Subscript pe i p] e pos)
      (mSet x mp mi m) := by
  intro A Hz env s₀ X C ρ O s r Q E hs hA I
  refine bindI fun d hd => bindI fun v hv => bindI fun z2 hy => bindI fun kvs hkv => bindI fun z4 hk => bindI fun key hkey hm hQ => ?_
  obtain ⟨y, up⟩ := z2
  obtain ⟨kx, kf⟩ := z4
  dsimp only at hkv hkey
  obtain ⟨rfl, hpk⟩ := dictOfD_some hkv
  obtain rfl := keyOf_some hkey
  have hx := treeOf_some hd
  revert hm
  refine ifI fun hz hm => ?_
  · (have e := si hm; subst e; clear hm)
    refine wpAny_Assign_Subscript (h hs hA I.toInF hv fun z s₁ k₁ r₁ => hp hs hA (I.grow k₁) hx hy fun ad as v' b s₂ k₂ hO nd r H => hi hs hA ((I.grow k₁).grow k₂).toInF hk fun ku s₃ k₃ r₃ => ?_) (hsw env)
    obtain ⟨cs, rk, ck, _⟩ := r₃
    have H := rk.strI; clear rk; induction H with | mk t => ?_
    obtain ⟨bs, rv, cv, _⟩ := r₁
    obtain rfl := rv.flat_foot hz.1
    have kk := keeps_trans k₁ (keeps_trans k₂ k₃)
    have g := keeps_grow k₃
    exact I.putKey kk hx hO nd (r.grow g) (H.grow g) (rv.grow (keeps_grow (keeps_trans k₂ k₃))) (fun _ q => nomatch q) List.nodup_nil cv ck hz.2 hpk fun O' s' I' T' => hQ O' s' I' T'
noncomputable def mSetF (x : String) (mp : Rho → PyData → Option (PyData × (PyData → PyData))) (mi : Rho → Option V) (m : Rho → Option (List PyData)) : Rho → Option Out := fun ρ => (treeOf ρ x).bind fun d => (m ρ).bind fun ys => (mp ρ d.2).bind fun q => (dictOfD q.1).bind fun kvs => (mi ρ).bind fun k => (keyOf k.x).bind fun key => if flats ys = true ∧ kvs.length + 1 ≤ sizeLine then some (.next (ρ.set x (.own (.tree d.1 (q.2 (.dict (setD key (.list ys) kvs))))))) else none
theorem S1.pSetF {x : String} {pe i e : Expr} {p pos : Pos} {mp : Rho → PyData → Option (PyData × (PyData → PyData))} {mi : Rho → Option V} {m : Rho → Option (List PyData)} (hp : Pa prog w hb n sc x pe mp) (hi : Ev prog w hb n sc i mi) (h : EvF prog w hb n sc e m) (hsw : ∀ env : Env, swapsWith e (some (.Subscript pe i p)) pos.line env = pure false) :
    S1 prog w hb n sc (.Assign [.Subscript pe i p] e pos)
      (mSetF x mp mi m) := by
  intro A Hz env s₀ X C ρ O s r Q E hs hA I
  refine bindI fun d hd => bindI fun ys hv => bindI fun z2 hy => bindI fun kvs hkv => bindI fun z4 hk => bindI fun key hkey hm hQ => ?_
  obtain ⟨y, up⟩ := z2
  obtain ⟨kx, kf⟩ := z4
  dsimp only at hkv hkey
  obtain ⟨rfl, hpk⟩ := dictOfD_some hkv
  obtain rfl := keyOf_some hkey
  have hx := treeOf_some hd
  revert hm
  refine ifI fun hz hm => ?_
  · (have e := si hm; subst e; clear hm)
    refine wpAny_Assign_Subscript (h hs hA I.toInF hv fun D cs' s₁ k₁ rv cv fr => hp hs hA (I.grow k₁) hx hy fun ad as v' b s₂ k₂ hO nd r H => hi hs hA ((I.grow k₁).grow k₂).toInF hk fun ku s₃ k₃ r₃ => ?_) (hsw env)
    obtain ⟨cs, rk, ck, _⟩ := r₃
    have H := rk.strI; clear rk; induction H with | mk t => ?_
    obtain ⟨_, _, _, _, _, e2, _, q⟩ := rv.list_inv
    obtain rfl := (List.cons.inj e2).2
    obtain rfl := q.flat_foot hz.1
    have kk := keeps_trans k₁ (keeps_trans k₂ k₃)
    have g := keeps_grow k₃
    exact I.putKey kk hx hO nd (r.grow g) (H.grow g) (rv.grow (keeps_grow (keeps_trans k₂ k₃))) fr (by simp) cv ck hz.2 hpk fun O' s' I' T' => hQ O' s' I' T'
noncomputable def mExtend (x : String) (mp : Rho → PyData → Option (PyData × (PyData → PyData))) (m : Rho → Option V) : Rho → Option Out := fun ρ => (treeOf ρ x).bind fun d => (mp ρ d.2).bind fun p => (listOfD p.1).bind fun xs => (m ρ).bind fun v => (listOfD v.x).bind fun ys => if flats ys = true ∧ xs.length + ys.length ≤ sizeLine ∧ v.fl = .d then some (.next (ρ.set x (.own (.tree d.1 (p.2 (.list (xs ++ ys))))))) else none
theorem S1.pExtend {x : String} {pe e : Expr} {ap cp pos : Pos} {mp : Rho → PyData → Option (PyData × (PyData → PyData))} {m : Rho → Option V} (hp : Pa prog w hb n sc x pe mp) (h : Ev prog w hb n sc e m) (he : ∀ env, starEach [e] env = [(false, eval e env)]) (hl : (ap.endLine == cp.line) = true)
    (hbase : ∀ env : Env, attributeBase pe (Str.ofString "extend") env (eval pe env) = eval pe env) (hi : ∀ env : Env, env.scope = sc → interactive env = false) :
    S1 prog w hb n sc (.Expr (.Call (.Attribute pe (Str.ofString "extend") ap) [e] [] cp) pos)
      (mExtend x mp m) := by
  intro A Hz env s₀ X C ρ O s r Q E hs hA I
  refine bindI fun d hd => bindI fun z1 hy => bindI fun xs hxs => bindI fun z3 hv => bindI fun ys hys hm hQ => ?_
  obtain ⟨y, up⟩ := z1
  obtain ⟨vx, vf⟩ := z3
  dsimp only at hxs hys
  obtain rfl := listOfD_some hxs
  obtain rfl := listOfD_some hys
  have hx := treeOf_some hd
  revert hm
  refine ifI fun hz hm => ?_
  · cases hm
    refine wpAny_Expr (wpAny_Call_method (hbase env) (by rw [he]; rfl) hl F.plainAttrs_list F.slot_list_extend F.type_list_extend (hp hs hA I hx hy fun ad as v' b s₁ k₁ hO nd r H => ?_)) (hi env hs)
    induction H.node.listI with | mk a vs k b₀ a1 a2 => ?_
    refine ⟨⟨_, a1, rfl⟩, fun a' ea => by cases ea; exact ⟨_, a1, rfl⟩, ?_⟩
    rw [he]
    show wpAny _ _ (callWith cp (.builtin "list.extend") [.ref a] [(false, eval e env)] []) _ _ _
    refine P.extend_list (h hs hA (I.grow k₁).toInF hv fun uu s₂ k₂ r₂ => ?_)
    obtain ⟨bs, rv, cv, ov⟩ := r₂
    dsimp only at rv cv ov
    have H := rv.listI; clear rv; induction H with | mk D us k2 bs' b1 b2 => ?_
    obtain rfl := b2.flat_foot hz.1
    have I₂ := (I.grow k₁).grow k₂
    have g := keeps_grow k₂
    have H := H.grow g
    have a1 := g _ _ a1
    have a2 := a2.grow g
    have c := wf_list.mp H.wfn
    have cv := wf_list.mp cv
    refine ⟨D, vs.toArray, us.toArray, k, k2, by simp [a2.length]; exact c.1, by simp [a2.length, b2.length]; lia, PyProof.Rows.extend_door (by simp [a2.length, b2.length]; lia), rfl, a1, b1, ?_⟩
    obtain ⟨k', ek⟩ := mapSeq_lst vs k (fun xs => xs ++ us.toArray)
    have hnew : (s₂.heap.update a (Obj.mapSeq fun xs => xs ++ us.toArray)).get? a = some (lstObj (vs ++ us) k') := by
      rw [Heap.get?_update_self _ a1 rfl, ek]; simp
    have kb := kept_below (H.nodup nd) (upd_all (h := s₂.heap) (a := a) (f := Obj.mapSeq fun xs => xs ++ us.toArray)) ⟨_, a1, not_tup_lst _ _⟩
    have hyn : RD prog w Hz (s₂.heap.update a (Obj.mapSeq fun xs => xs ++ us.toArray)) (.ref a) (.list (xs ++ ys)) (a :: (b₀ ++ [])) :=
      .list hnew ((kept_both.2 a2 kb).append (kept_both.2 b2 (kb.mono fun _ q => nomatch q)))
    obtain ⟨O', I', T'⟩ := I₂.put (keeps_refl s₂) s₂.toks hx hO nd (r.grow g) H upd_all hyn (fun c hc => .inl (by simpa using hc)) (by simpa using (List.nodup_cons.mp (H.nodup nd)).2) (wf_list.mpr ⟨by simpa using hz.2.1, by rw [wfs_append, c.2, cv.2]; rfl⟩)
    exact hQ O' _ I' ((Step.of_grow (keeps_grow (keeps_trans k₁ k₂))).trans T')
set_option maxRecDepth 100000 in
theorem set_at {A : Around} {E : Value → Shared → Prop} {s : Shared} {a : Addr} {vs : List Value} {k : Nat} {j : Int} {t : Tok} {v : Value} {Q : Unit → Shared → Prop} (ho : s.heap.get? a = some (lstObj vs k)) (h0 : 0 ≤ j) (hz : j < 2 ^ 63) (hj : j.toNat < vs.length)
    (hQ : Q () { s with heap := s.heap.update a (Obj.mapSeq fun ys => ys.setIfInBounds j.toNat v) }) : wpAny (model prog w) A (setItem (.ref a) (.int j t) v) Q E s := by
  have ty : s.TypeIs (.ref a) "list" := ⟨_, ho, rfl⟩
  have get : vs.toArray[j.toNat]? = some vs[j.toNat] := by simp [hj]
  have body : wpAny (model prog w) A.in1 (Builtin.«list.__setitem__» ⟨[.ref a, .int j t, v], []⟩) (fun r s' => ∃ x, r = .done (.ret x) ∧ Q () s') E s := by
    change wpAny _ _ (Builtin.List.listSubscript? (.int j t) >>= _) _ _ s
    refine wpAny_bind (wpAny_listSubscript_int (fitsIndex_of h0 hz) ?_)
    obtain ⟨i, rfl⟩ := Int.eq_ofNat_of_zero_le h0
    change wpAny _ _ ((seqItemAt a i >>= fun r => pure (r.map (i, ·))) >>= _) _ _ s
    refine wpAny_bind (wpAny_bind (wpAny_seqItemAt ho rfl (wpAny_pure ?_)))
    have get' : vs.toArray[i]? = some vs[i] := get
    rw [get']
    change wpAny _ _ (setSeqItemAt a i v >>= _) _ _ s
    exact wpAny_bind (wpAny_setSeqItemAt ho rfl (wpAny_pure ⟨.none, rfl, hQ⟩))
  unfold setItem
  refine wpAny_holding ?_
  refine wpAny_bind (wpAny_sequenceKey ty (by decide) (wpAny_bind (wpAny_callSpecial?_slot (name := Str.ofString "__setitem__") ty slot_list_setitem (wpAny_call_entry slot_list_setitem ty entry_list_setitem (wpAny_mono body (fun r s' h => ?_) fun _ _ e => e) (args_list_setitem _ _ _)))))
  obtain ⟨x, e, q⟩ := h
  exact ⟨x, e, wpAny_pure q⟩
noncomputable def mAug (x : String) (mp : Rho → PyData → Option (PyData × (PyData → PyData))) (mi m : Rho → Option V) : Rho → Option Out := fun ρ => (treeOf ρ x).bind fun d => (mp ρ d.2).bind fun q => (listOfD q.1).bind fun xs => (mi ρ).bind fun k => (intOf k.x).bind fun j => if 0 ≤ j then (xs[j.toNat]?).bind fun y => (intOf y).bind fun a => (m ρ).bind fun v => (intOf v.x).bind fun b => some (.next (ρ.set x (.own (.tree d.1 (q.2 (.list (xs.set j.toNat (.int (a + b)))))))) ) else none
theorem S1.pAug {x : String} {pe i e : Expr} {p pos : Pos} {mp : Rho → PyData → Option (PyData × (PyData → PyData))} {mi m : Rho → Option V} (hp : Pa prog w hb n sc x pe mp) (hi : Ev prog w hb n sc i mi) (h : Ev prog w hb n sc e m)
    (hi' : ∀ ov iv new, augStore i ov iv new = (do holding [new, ov, iv] (setItem ov iv new); release [new, ov, iv] []; pure .next)) :
    S1 prog w hb n sc (.AugAssign (.Subscript pe i p) .Add e pos)
      (mAug x mp mi m) := by
  intro A Hz env s₀ X C ρ O s r Q E hs hA I
  refine bindI fun d hd => bindI fun z1 hy => bindI fun xs hxs => bindI fun z3 hk => bindI fun j hj hm2 hQ => ?_
  obtain ⟨y, up⟩ := z1
  obtain ⟨kx, kf⟩ := z3
  dsimp only at hxs hj
  obtain rfl := listOfD_some hxs
  obtain rfl := intOf_some hj
  have hx := treeOf_some hd
  split at hm2
  · rename_i hj0
    obtain ⟨o, ho, hm2⟩ := bindE hm2
    obtain ⟨ai, ha, hm3⟩ := bindE hm2
    clear hm2
    obtain rfl := intOf_some ha
    obtain ⟨⟨vx, vf⟩, hv, hm4⟩ := bindE hm3
    clear hm3
    obtain ⟨bi, hbi, hm5⟩ := bindE hm4
    clear hm4
    dsimp only at hbi
    obtain rfl := intOf_some hbi
    (have e := si hm5; subst e; clear hm5)
    refine wpAny_AugAssign_SubscriptAny (hp hs hA I hx hy fun ad as v' b s₁ k₁ hO nd r H => hi hs hA (I.grow k₁).toInF hk fun ku s₂ k₂ r₂ => ?_) hi'
    obtain ⟨cs, rk, ck, _⟩ := r₂
    have H := rk.intI; clear rk; induction H with | mk t => ?_
    have g := keeps_grow k₂
    have H := H.grow g
    have r := r.grow g
    induction H.node.listI with | mk a vs k b₀ a1 a2 => ?_
    have c := wf_list.mp H.wfn
    have hz := sizeLine_small
    obtain ⟨ov, ob, e1, e2, _⟩ := a2.get ho
    have H := e2.intI; clear e2; induction H with | mk t' => ?_
    have hlt := (List.getElem?_eq_some_iff.mp e1).1
    have hlen := a2.length
    refine wpAny_getItem_list ⟨_, a1, rfl, _, rfl⟩ hj0 (by lia) (by simpa using e1) (h hs hA ((I.grow k₁).grow k₂).toInF hv fun uu s₃ k₃ r₃ => ?_)
    obtain ⟨bs, rv, cv, _⟩ := r₃
    have H := rv.intI; clear rv; induction H with | mk t'' => ?_
    refine PySem.AutoIntOps.iadd_0 ?_
    show wpAny _ _ (setItem (.ref a) (.int j t) _) _ _ _
    have kk := keeps_trans k₁ (keeps_trans k₂ k₃)
    have g3 := keeps_grow k₃
    have H := H.grow g3
    have a1 := g3 _ _ a1
    have a2 := a2.grow g3
    refine set_at a1 hj0 (by lia) (by lia) ?_
    obtain ⟨k', ek⟩ := mapSeq_lst vs k (fun ys => ys.setIfInBounds j.toNat (.int (ai + bi) s₃.toks))
    have hnew : (s₃.heap.update a (Obj.mapSeq fun ys => ys.setIfInBounds j.toNat (.int (ai + bi) s₃.toks))).get? a = some (lstObj (vs.set j.toNat (.int (ai + bi) s₃.toks)) k') := by
      rw [Heap.get?_update_self _ a1 rfl, ek]; simp
    have kb := kept_below (H.nodup nd) (upd_all (h := s₃.heap) (a := a) (f := Obj.mapSeq fun ys => ys.setIfInBounds j.toNat (.int (ai + bi) s₃.toks))) ⟨_, a1, not_tup_lst _ _⟩
    have hjx : j.toNat < xs.length := by lia
    obtain ⟨l, b, m', eb, rds⟩ := (kept_both.2 a2 kb).setAt hjx (.int (ai + bi) s₃.toks)
    have nb := (List.nodup_cons.mp (H.nodup nd)).2
    obtain ⟨O', I', T'⟩ := I.put kk (s₃.toks + 1) hx hO nd (r.grow g3) H upd_all (.list hnew rds) (fun c hc => .inl (by
      rw [eb]
      simp only [List.mem_append, List.not_mem_nil, false_or] at hc ⊢
      exact hc.imp id .inr)) (by
      rw [eb] at nb
      simp only [List.nil_append]
      rw [List.nodup_append, List.nodup_append] at nb
      rw [List.nodup_append]
      exact ⟨nb.1, nb.2.1.2.1, fun c hc c' hc' => nb.2.2 c hc c' (List.mem_append_right _ hc')⟩) (wf_list.mpr ⟨by simpa using c.1, wfs_set c.2 rfl⟩)
    obtain ⟨h1, t1, rfl, _⟩ := kk
    exact hQ O' _ I' T'
  · exact no hm2
theorem bind_val {k : Str → Option NameKind} : ∀ {ps : List String} {us : List Value} {m c : Str → Option Value}, ps.Nodup → ∀ {y : String} {u : Value}, (ps.zip us).lookup y = some u →
    (k (Str.ofString y) = some .local → bindL k ((ps.map Str.ofString).zip us) m (Str.ofString y) = some u) ∧ (k (Str.ofString y) ≠ some .local → bindC k ((ps.map Str.ofString).zip us) c (Str.ofString y) = some u)
  | [], _, _, _, _, y, u, e => by simp at e
  | p :: ps, [], _, _, _, y, u, e => by simp at e
  | p :: ps, v :: us, m, c, hn, y, u, e => by
    rw [List.nodup_cons] at hn
    simp only [List.zip_cons_cons, List.lookup_cons] at e
    by_cases hy : y = p
    · subst hy
      simp only [beq_self_eq_true] at e
      (have e := si e; subst e; clear e)
      refine ⟨fun hk => ?_, fun hk => ?_⟩
      · rw [List.map_cons, List.zip_cons_cons, bindL, bindL_other (zip_names hn.1), if_pos hk]; exact if_pos rfl
      · rw [List.map_cons, List.zip_cons_cons, bindC, bindC_other (zip_names hn.1), if_neg hk]; exact if_pos rfl
    · have hyp : (y == p) = false := by simpa using hy
      rw [hyp] at e
      exact bind_val hn.2 e
theorem zip_some {α : Type} {ps : List String} {xs : List α} {us : List Value} {y : String} {x : α} (hl : ps.length = us.length) (h : (ps.zip xs).lookup y = some x) : ∃ u, (ps.zip us).lookup y = some u :=
  Option.isSome_iff_exists.mp (lookup_zip hl y (List.of_mem_zip (lookup_mem h)).1)
structure Handed (prog : Program) (w : World) (Hz : List Addr) (hb h : Heap) (ps : List String) (px : String) (us : List Value) (xs : List PyData) (a : Addr) (d : PyData) (as : List Addr) : Prop where
  val : (ps.zip us).lookup px = some (.ref a)
  dat : (ps.zip xs).lookup px = some d
  tree : RD prog w Hz h (.ref a) d as
  node : isNode d = true
  nodup : as.Nodup
  new : ∀ c ∈ as, hb.get? c = none
  args : ∀ y u x, (ps.zip us).lookup y = some u → (ps.zip xs).lookup y = some x → y ≠ px → ∃ bs, RD prog w Hz h u x bs ∧ ∀ c ∈ bs, c ∉ as
theorem InS.startX {s s' : Shared} {env : Env} {ps : List String} {px : String} {us : List Value} {xs : List PyData} {as₀ as : List Addr} {a : Addr} {d : PyData} (b : Base prog Hz hb s.heap) (hsc : env.scope = sc) (hk : sc.kind = .function) (hg : env.globals = mainGlobals) (hbu : env.builtins = builtinsNs)
    (hcells : env.cells = cellsFrom (env.locals + 1) sc.names []) (honce : cellsOnce sc = true) (hnd : ps.Nodup) (rd : RDs prog w Hz s.heap us xs as₀) (hw : wfs xs = true) (hlen : ps.length = us.length) (T : Handed prog w Hz hb s.heap ps px us xs a d as)
    (x : InCallC s env.locals (bindL env.kindOf ((ps.map Str.ofString).zip us) fun _ => none) env.cells (bindC env.kindOf ((ps.map Str.ofString).zip us) fun _ => none) s') :
    InS prog w Hz hb s as env (env.cells.map (·.2)) ((rho0 ps xs).set px (.own (.tree (some a) d))) [(px, as)] s' := by
  have I := InS.start (w := w) b hsc hk hg hbu hcells honce hnd rd hw x
  have keep := x.toInCall.keep
  have hWW : ∀ c, c ∈ WW env (env.cells.map (·.2)) [(px, as)] ↔ c ∈ WW env (env.cells.map (·.2)) [] ∨ c ∈ as := by
    intro c; simp [WW, or_assoc]
  have hfr : ∀ c ∈ WW env (env.cells.map (·.2)) [], s.heap.get? c = none := fun c hc => (I.wfresh c hc).2 (by simp)
  have hal : ∀ c ∈ as, ∃ o, s.heap.get? c = some o ∧ ¬ Tup o := nontup_both.1 T.tree
  have hne : ∀ c ∈ WW env (env.cells.map (·.2)) [], c ∉ as := fun c hc q => by
    obtain ⟨o, e, _⟩ := hal c q
    rw [hfr c hc] at e; exact no e
  have vars : ∀ y vv, ((rho0 ps xs).set px (.own (.tree (some a) d))) y = some vv → ∃ u, RepVV prog w Hz s.heap (WW env (env.cells.map (·.2)) [(px, as)]) [(px, as)] s'.heap y u vv ∧
      (env.kindOf (Str.ofString y) = some .local → bindL env.kindOf ((ps.map Str.ofString).zip us) (fun _ => none) (Str.ofString y) = some u) ∧ (env.kindOf (Str.ofString y) ≠ some .local → bindC env.kindOf ((ps.map Str.ofString).zip us) (fun _ => none) (Str.ofString y) = some u) := by
    intro y vv e
    have e' : (if y = px then some (VV.own (.tree (some a) d)) else rho0 ps xs y) = some vv := (set_if _ _ _ _).symm.trans e
    by_cases hy : y = px
    · rw [if_pos hy] at e'
      (have e := si e'; subst e; clear e')
      subst hy
      refine ⟨.ref a, ⟨as, by rw [List.lookup_cons, beq_self_eq_true], .tree (T.tree.grow keep) T.nodup ?_ T.node fun _ q => (Option.some.inj q).symm⟩, (bind_val (m := fun _ => none) (c := fun _ => none) hnd T.val).1, (bind_val (m := fun _ => none) (c := fun _ => none) hnd T.val).2⟩
      exact (wfs_iff _).mp hw _ (List.of_mem_zip (lookup_mem T.dat)).2
    · rw [if_neg hy] at e'
      rw [rho0_eq] at e'
      induction mapE e' with | mk z hz => ?_
      obtain ⟨u, hu⟩ := zip_some hlen hz
      obtain ⟨bs, q1, q2⟩ := T.args y u z hu hz hy
      refine ⟨u, ⟨?_, Rep.fixed (q1.grow keep) ((wfs_iff _).mp hw _ (List.of_mem_zip (lookup_mem hz)).2) fun c hc hq => ?_⟩, (bind_val (m := fun _ => none) (c := fun _ => none) hnd hu).1, (bind_val (m := fun _ => none) (c := fun _ => none) hnd hu).2⟩
      · unfold V.fix
        split
        · exact .inl rfl
        · exact .inr rfl
      · obtain ⟨o, eo⟩ := q1.alive c hc
        rcases (hWW c).mp hq with hq | hq
        · rw [hfr c hq] at eo; exact no eo
        · exact q2 c hc hq
  refine ⟨⟨I.same, I.base, fun c o e _ => keep c o e, I.alive, fun c hc => ?_, fun c hc => ?_, ?_, I.kind, I.glob, I.bult, I.clk, ⟨_, x.toInCall.ns, fun y vv e1 e2 => ?_⟩, fun y vv e1 e2 => ?_⟩, I.fc, I.finj, I.cello⟩
  · rcases (hWW c).mp hc with hc | hc
    · exact I.walive c hc
    · obtain ⟨o, e, t⟩ := hal c hc
      exact ⟨o, keep c o e, t⟩
  · rcases (hWW c).mp hc with hc | hc
    · exact ⟨(I.wfresh c hc).1, fun _ => hfr c hc⟩
    · exact ⟨T.new c hc, fun q => absurd hc q⟩
  · have N := I.wnodup
    have : WW env (env.cells.map (·.2)) [(px, as)] = WW env (env.cells.map (·.2)) [] ++ as := by simp [WW]
    rw [this, List.nodup_append]
    exact ⟨N, T.nodup, fun c hc c' hc' q => hne c hc (q ▸ hc')⟩
  · obtain ⟨u, r, q1, _⟩ := vars y vv e1
    exact ⟨u, q1 e2, r⟩
  · obtain ⟨u, r, _, q2⟩ := vars y vv e1
    obtain ⟨c, hc, _⟩ := I.fc y e2
    refine ⟨c, u, hc, ?_, r⟩
    have := x.cell _ c hc
    rw [q2 (by rw [e2]; simp)] at this
    exact this
noncomputable def FnM (prog : Program) (w : World) (hb : Heap) (n : Nat) (f : Addr) (ps : List String) (px : String) (m : List PyData → Option PyData) : Prop :=
  ∀ ⦃A : Around⦄ ⦃Hz : List Addr⦄ ⦃s : Shared⦄ ⦃us : List Value⦄ ⦃xs : List PyData⦄ ⦃as₀ as : List Addr⦄ ⦃a : Addr⦄ ⦃d d' : PyData⦄ ⦃Q : Value → Shared → Prop⦄ ⦃E : Value → Shared → Prop⦄,
    Room A n → Base prog Hz hb s.heap → RDs prog w Hz s.heap us xs as₀ → wfs xs = true → ps.length = us.length → Handed prog w Hz hb s.heap ps px us xs a d as → m xs = some d' →
    (∀ as' s', (∃ h tk, s' = { s with heap := h, toks := tk }) → (∀ b o, s.heap.get? b = some o → b ∉ as → s'.heap.get? b = some o) → (∀ b o, s.heap.get? b = some o → ∃ o', s'.heap.get? b = some o') → RD prog w Hz s'.heap (.ref a) d' as' → as'.Nodup → wf d' = true →
      (∀ c ∈ as', c ∈ as ∨ s.heap.get? c = none) → Q .none s') → wpAny (model prog w) A (call (.ref f) us) Q E s
noncomputable def procD (ps : List String) (px : String) (m : Rho → Option Out) (a : Addr) (xs : List PyData) : Option PyData :=
  if xs.length = ps.length then ((ps.zip xs).lookup px).bind fun d => (m ((rho0 ps xs).set px (.own (.tree (some a) d)))).bind fun o => match o with
    | .next ρ => (treeOf ρ px).bind fun q => if q.1 = some a then some q.2 else none
    | _ => none
  else none
theorem FnM.def {f : Addr} {ps : List String} {px : String} {body : List Stmt} {m : Rho → Option Out} {spec : List PyData → Option PyData} (D : DefOk hb f sc ps body) (hpx : px ∈ ps) (h : St prog w hb n sc body m) (hm : ∀ a xs d', spec xs = some d' → procD ps px m a xs = some d') : FnM prog w hb (n + 1) f ps px spec := by
  intro A Hz s us xs as₀ as a d d' Q E hA b rd hw hlen T hsp hQ
  have hmm := hm a xs d' hsp
  obtain ⟨fo, fd, args, ho, hd, hp, hnm, hbd, hsc, hcl, hdf, hgl, hbu, hcr⟩ := D.there
  unfold procD at hmm
  split at hmm
  · rename_i hlx
    obtain ⟨d₀, hd₀, hmm⟩ := bindE hmm
    rw [T.dat] at hd₀
    (have e := si hd₀; subst e; clear hd₀)
    obtain ⟨o, ho', hy⟩ := bindE hmm
    have hps : args.length = ps.length := by simpa using congrArg List.length hnm
    have hul : args.length = us.length := hps.trans hlen
    have hnames : (args.map (·.arg)).Nodup := by
      rw [hnm]
      rw [List.Nodup, List.pairwise_map]
      exact D.names.imp fun h e => h (ofString_inj e)
    refine wpAny_call (codeAny_call_function (fd := fd) (body := body) (by have := hA.depth; omega) (b.grow _ _ ho) hd (by rw [hsc]; exact D.co) (by rw [hsc]; exact D.gen) hbd (hcr.keeps b.grow) ?_)
    rw [bind_plain hp hdf hul hnames, hnm, hsc, hgl, hcl, hbu]
    refine wpAny_pure (wpAny_newFunctionEnv_cells D.kind (fun z hz => ?_) fun env he s' x => ?_)
    · have := (List.of_mem_zip hz).1
      obtain ⟨p, hp', e⟩ := List.mem_map.mp this
      rw [← e]
      refine (isVar_kinds (D.vars p hp')).imp id fun q => ⟨q, cells_some _ _ _ (.inl q)⟩
    · have e1 : env.scope = sc := by rw [he]; rfl
      have e2 : env.globals = mainGlobals := by rw [he]; rfl
      have e3 : env.builtins = builtinsNs := by rw [he]; rfl
      have e4 : env.cells = cellsFrom (env.locals + 1) sc.names [] := by rw [he]; rfl
      have I := InS.startX (w := w) b e1 D.kind e2 e3 e4 D.once D.names rd hw hlen T x
      refine ⟨I.base.nolimit, codeAny_func ?_⟩
      have pe : PlainEnv env := ⟨by rw [e1]; exact D.gen, by rw [e1]; exact D.co, e3, e2⟩
      refine h e1 (hA.deeper pe) I ho' ?_
      induction o with
      | next ρ =>
        obtain ⟨⟨a', d''⟩, ht, hy2⟩ := bindE hy
        clear hy
        dsimp only at hy2
        split at hy2
        · rename_i ea
          obtain rfl := Option.some.inj hy2
          subst ea
          have hx := treeOf_some ht
          dsimp only at hx
          intro O' s'' J T'
          have hrep : ∃ as', O'.lookup px = some as' ∧ RD prog w Hz s''.heap (.ref a) d'' as' ∧ as'.Nodup ∧ wf d'' = true := by
            have fin : ∀ u, RepVV prog w Hz s.heap (WW env (env.cells.map (·.2)) O') O' s''.heap px u (.own (.tree (some a) d'')) → ∃ as', O'.lookup px = some as' ∧ RD prog w Hz s''.heap (.ref a) d'' as' ∧ as'.Nodup ∧ wf d'' = true := by
              rintro u ⟨sp, e, r⟩
              cases r with
              | tree q1 q2 q3 _ q5 => exact ⟨_, e, by rw [q5 a rfl]; exact q1, q2, q3⟩
            rcases isVar_kinds (D.vars px hpx) with q | q
            · obtain ⟨mm, hns, hv⟩ := J.ns
              obtain ⟨u, _, r⟩ := hv px _ hx (by unfold Env.kindOf; rw [e1]; exact q)
              exact fin u r
            · obtain ⟨c, u, _, _, r⟩ := J.cell px _ hx (by unfold Env.kindOf; rw [e1]; exact q)
              exact fin u r
          obtain ⟨as', r1, r2, r3, r4⟩ := hrep
          refine hQ as' s'' J.same (fun c o e q => J.keep c o e q) J.alive r2 r3 r4 fun c hc => ?_
          have hcW := J.wfresh c (own_sub r1 hc)
          by_cases q : c ∈ as
          · exact .inl q
          · exact .inr (hcW.2 q)
        · exact no hy2
      | ret z => exact no hy
      | retT z ρ => exact no hy
      | brk ρ => exact no hy
      | cont ρ => exact no hy
  · exact no hmm
noncomputable def DefM (prog : Program) (w : World) (hb : Heap) (n : Nat) (x : String) (ps : List String) (px : String) (m : List PyData → Option PyData) : Prop :=
  ∃ a o fd, GName hb x (.ref a) ∧ hb.get? a = some o ∧ o.data = .func fd ∧ FnM prog w hb n a ps px m
theorem DefM.of {x : String} {ps : List String} {px : String} {body : List Stmt} {m : Rho → Option Out} {spec : List PyData → Option PyData} (D : DefAt hb x sc ps body) (hpx : px ∈ ps) (h : St prog w hb n sc body m) (hm : ∀ a xs d', spec xs = some d' → procD ps px m a xs = some d') : DefM prog w hb (n + 1) x ps px spec := by
  obtain ⟨a, g, D⟩ := D
  obtain ⟨fo, fd, args, ho, hd, _⟩ := D.there
  exact ⟨a, fo, fd, g, ho, hd, FnM.def D hpx h hm⟩
theorem node_only {o : Option PyData} {d : PyData} (h : (o.bind fun d' => if isNode d' = true then some d' else none) = some d) : o = some d ∧ isNode d = true := by
  obtain ⟨d', h1, h2⟩ := bindE h
  split at h2
  · rename_i hn; (have e := si h2; subst e; clear h2); exact ⟨h1, hn⟩
  · exact no h2
noncomputable def mCall (x : String) (m1 m3 : Rho → Option V) (m : List PyData → Option PyData) : Rho → Option Out := fun ρ => (treeOf ρ x).bind fun d => (m1 ρ).bind fun v1 => (m3 ρ).bind fun v3 => if v1.fl ≠ .t ∧ flat v3.x = true then ((m [v1.x, d.2, v3.x]).bind fun d' => if isNode d' = true then some d' else none).map fun d' => .next (ρ.set x (.own (.tree d.1 d'))) else none
theorem S1.callM {f x p1 px p3 : String} {k : Nat} {e1 e3 : Expr} {np xp cp pos : Pos} {m1 m3 : Rho → Option V} {m : List PyData → Option PyData} (h : DefM prog w hb k f [p1, px, p3] px m) (h1 : Ev prog w hb n sc e1 m1) (h3 : Ev prog w hb n sc e3 m3) (hv : isVar sc x = true) (hx' : isGlob sc f = true) (hk : k ≤ n)
    (hne : p1 ≠ px ∧ p3 ≠ px ∧ p3 ≠ p1) (hst : ∀ env, starEach [e1, .Name (Str.ofString x) xp, e3] env = (false, eval e1 env) :: starEach [.Name (Str.ofString x) xp, e3] env)
    (hs1 : ∀ env, starEach [.Name (Str.ofString x) xp, e3] env = (false, eval (.Name (Str.ofString x) xp) env) :: starEach [e3] env) (hs3 : ∀ env, starEach [e3] env = (false, eval e3 env) :: starEach [] env) (hstar : ∀ env : Env, (backTo cp (starEach [e1, .Name (Str.ofString x) xp, e3] env)).any (·.1) = false)
    (hi : ∀ env : Env, env.scope = sc → interactive env = false) :
    S1 prog w hb n sc (.Expr (.Call (.Name (Str.ofString f) np) [e1, .Name (Str.ofString x) xp, e3] [] cp) pos)
      (mCall x m1 m3 m) := by
  intro A Hz env s₀ X C ρ O s r Q E hs hA I
  refine bindI fun d hd => bindI fun v1 hv1 => bindI fun v3 hv3 hm hQ => ?_
  have hx := treeOf_some hd
  split at hm
  · rename_i hz
    induction mapE hm with | mk d' hd' => ?_
    obtain ⟨hd', hno⟩ := node_only hd'
    obtain ⟨fa, fo, fd, g, ho, hfd, hf⟩ := h
    refine wpAny_Expr ?_ (hi env hs)
    show wpAny _ _ (eval (.Name (Str.ofString f) np) env >>= fun f => callWith cp f [] (backTo cp (starEach [e1, .Name (Str.ofString x) xp, e3] env)) []) _ _ s
    refine wpAny_bind (eval_glob I.toInF (by rw [hs]; exact hx') g (callWith_ok (.inr (.inr ⟨fa, fo, fd, rfl, ho, hfd⟩)) (hstar env) ?_))
    refine wpAny_items_cons (h1 hs hA I.toInF hv1 fun u1 s₁ k₁ r₁ => wpAny_items_cons ((I.grow k₁).ownedT (by rw [hs]; exact hv) hx fun ad as hO rt nd ct cn => wpAny_items_cons (h3 hs hA (I.grow k₁).toInF hv3 fun u3 s₂ k₂ r₂ => wpAny_items_nil ?_) (hs3 _)) (hs1 _)) (hst _)
    have I₂ := (I.grow k₁).grow k₂
    have g2 := keeps_grow k₂
    refine ⟨I₂.base.grow, ?_⟩
    obtain ⟨as1, ra, ca, fa1⟩ := r₁
    obtain ⟨as3, rc, cc, _⟩ := r₂
    obtain rfl := rc.flat_foot hz.2
    have ra := ra.grow g2
    have rt := rt.grow g2
    have hdis : ∀ c ∈ as1, c ∉ as := by
      intro c hc q
      have hw := own_sub (env := env) (C := C) hO q
      cases e : v1.fl with
      | d => rw [e] at fa1; exact (fa1 c hc).2 hw
      | s => rw [e] at fa1; exact fa1 c hc hw
      | t => exact hz.1 e
    have l1 : (px == p1) = false := beq_eq_false_iff_ne.mpr (Ne.symm hne.1)
    have l3 : (p3 == p1) = false := beq_eq_false_iff_ne.mpr hne.2.2
    have l4 : (p3 == px) = false := beq_eq_false_iff_ne.mpr hne.2.1
    have H : Handed prog w Hz hb s₂.heap [p1, px, p3] px [u1, .ref ad, u3] [v1.x, d.2, v3.x] ad d.2 as := by
      refine ⟨by simp [List.lookup_cons, l1], by simp [List.lookup_cons, l1], rt, cn, nd, fun c hc => (I₂.wfresh c (own_sub hO hc)).1, fun y u z q1 q2 q3 => ?_⟩
      simp only [List.zip_cons_cons, List.lookup_cons] at q1 q2
      by_cases y1 : y = p1
      · subst y1
        simp only [beq_self_eq_true] at q1 q2
        (have e := si q1; subst e; clear q1); (have e := si q2; subst e; clear q2)
        exact ⟨as1, ra, hdis⟩
      · rw [beq_eq_false_iff_ne.mpr y1] at q1 q2
        simp only at q1 q2
        rw [beq_eq_false_iff_ne.mpr q3] at q1 q2
        simp only at q1 q2
        by_cases y3 : y = p3
        · subst y3
          simp only [beq_self_eq_true] at q1 q2
          (have e := si q1; subst e; clear q1); (have e := si q2; subst e; clear q2)
          exact ⟨[], rc, fun _ q => nomatch q⟩
        · rw [beq_eq_false_iff_ne.mpr y3] at q1
          simp at q1
    refine hf (hA.toRoom.mono hk) I₂.base (.cons ra (.cons rt (.cons rc .nil))) (by simp [wfs, ca, ct, cc]) rfl H hd' fun as' s' sm kp al rd' nd' wf' fr => ?_
    have hn : ∀ c ∈ as', (c ∈ as ∨ s₂.heap.get? c = none) ∧ ∃ o, s'.heap.get? c = some o ∧ ¬ Tup o := fun c hc => ⟨fr c hc, nontup_both.1 rd' c hc⟩
    have ha : ∀ c ∈ as, ∃ o, s'.heap.get? c = some o := fun c hc => by
      obtain ⟨o, e, _⟩ := I₂.walive c (own_sub hO hc)
      exact al c o e
    obtain ⟨h', tk, rfl⟩ := sm
    have I' := I₂.updTree (tk := tk) hx hO kp ha hn nd' wf' hno (fun a' q => by
      obtain ⟨_, z1⟩ := node_head q cn
      obtain ⟨_, z2⟩ := node_head rt cn
      rw [z1] at z2
      rw [(List.cons.inj z2).1]; exact rd')
    exact hQ _ _ I' ((Step.of_grow (keeps_grow (keeps_trans k₁ k₂))).trans (tree_step hO kp fun c hc => (hn c hc).1))
  · exact no hm
noncomputable def EvT (prog : Program) (w : World) (hb : Heap) (n : Nat) (sc : Scope) (e : Expr) (m : Rho → Option PyData) : Prop :=
  ∀ ⦃A : Around⦄ ⦃Hz : List Addr⦄ ⦃env : Env⦄ ⦃s₀ : Shared⦄ ⦃X C : List Addr⦄ ⦃ρ : Rho⦄ ⦃O : List (String × List Addr)⦄ ⦃s : Shared⦄ ⦃d : PyData⦄ ⦃Q : Value → Shared → Prop⦄ ⦃E : Value → Shared → Prop⦄,
    env.scope = sc → RoomF A n → InF prog w Hz hb s₀ X env C ρ O s → m ρ = some d →
    (∀ u as s', Keeps s s' → RD prog w Hz s'.heap u d as → as.Nodup → wf d = true → (∀ a ∈ as, s.heap.get? a = none) → Q u s') → wpAny (model prog w) A (eval e env) Q E s
theorem EvT.flat {e : Expr} {m : Rho → Option V} (h : Ev prog w hb n sc e m) : EvT prog w hb n sc e (fun ρ => (m ρ).bind fun v => if flat v.x = true then some v.x else none) := by
  intro A Hz env s₀ X C ρ O s d Q E hs hA I
  refine bindI fun v hv => ifI fun hf hm hQ => ?_
  · (have e := si hm; subst e; clear hm)
    refine h hs hA I hv fun u s' k r => ?_
    obtain ⟨as, rd, c, _⟩ := r
    obtain rfl := rd.flat_foot hf
    exact hQ u [] s' k rd List.nodup_nil c fun _ q => nomatch q
theorem EvT.nil {pos : Pos} : EvT prog w hb n sc (.List [] pos) (fun _ => some (.list [])) := by
  intro A Hz env s₀ X C ρ O s d Q E hs hA I hm hQ
  (have e := si hm; subst e; clear hm)
  refine wpAny_List (wpAny_items_nil ⟨Nat.zero_le _, ?_⟩)
  exact hQ _ [s.heap.objs.size] _ (keeps_push s _) (.list (vs := []) (Heap.get?_push_size _ rfl) .nil) (by simp) (by decide) fun a ha => by
    rw [List.mem_singleton.mp ha]; exact get?_size_none _ (Nat.le_refl _)
theorem EvT.emp {pos : Pos} : EvT prog w hb n sc (.Dict [] [] pos) (fun _ => some (.dict [])) := by
  intro A Hz env s₀ X C ρ O s d Q E hs hA I hm hQ
  (have e := si hm; subst e; clear hm)
  refine wpAny_Dict_empty ?_
  have hmod : (s.heap.objs.size == sysModules) = false := by
    obtain ⟨o, ho⟩ := I.base.mods
    have := Heap.lt_size (I.base.grow _ _ ho)
    simpa using (Nat.ne_of_gt this)
  exact hQ _ [s.heap.objs.size] _ (keeps_push s _) (RD.dict (kvs := []) (xs := []) (Heap.DictOf.new _) hmod rfl .nil) (by simp) (by decide) fun a ha => by
    rw [List.mem_singleton.mp ha]; exact get?_size_none _ (Nat.le_refl _)
inductive RTs (prog : Program) (w : World) (Hz : List Addr) (h : Heap) : List (Value × Value) → List (Str × PyData) → List Addr → Prop
  | nil : RTs prog w Hz h [] [] []
  | cons {x : Str} {t : Tok} {u : Value} {d : PyData} {us : List (Value × Value)} {ds : List (Str × PyData)} {as bs : List Addr} : wf (.str x) = true → wf d = true → RD prog w Hz h u d as → RTs prog w Hz h us ds bs → RTs prog w Hz h ((.str x t, u) :: us) ((x, d) :: ds) (as ++ bs)
noncomputable def PrT (prog : Program) (w : World) (hb : Heap) (n : Nat) (sc : Scope) (ks : List (Option Expr)) (es : List Expr) (m : Rho → Option (List (Str × PyData))) : Prop :=
  ∀ ⦃A : Around⦄ ⦃Hz : List Addr⦄ ⦃env : Env⦄ ⦃s₀ : Shared⦄ ⦃X C : List Addr⦄ ⦃ρ : Rho⦄ ⦃O : List (String × List Addr)⦄ ⦃s : Shared⦄ ⦃r : List (Str × PyData)⦄ ⦃pos : Pos⦄ ⦃Q : List (Value × Value) → Shared → Prop⦄ ⦃E : Value → Shared → Prop⦄,
    env.scope = sc → RoomF A n → InF prog w Hz hb s₀ X env C ρ O s → m ρ = some r → (∀ us as s', Keeps s s' → RTs prog w Hz s'.heap us r as → as.Nodup → (∀ a ∈ as, s.heap.get? a = none) → Q us s') → wpAny (model prog w) A (evalPairs (pairTrees ks es env pos)) Q E s
theorem PrT.nil : PrT prog w hb n sc [] [] (fun _ => some []) := by
  intro A Hz env s₀ X C ρ O s r pos Q E hs hA I hm hQ
  (have e := si hm; subst e; clear hm)
  exact pairTrees_nil_walk (hQ [] [] s (keeps_refl s) .nil List.nodup_nil fun _ q => nomatch q)
theorem PrT.cons {x : String} {k : Nat} {kp : Pos} {e : Expr} {ks : List (Option Expr)} {es : List Expr} {m : Rho → Option PyData} {ms : Rho → Option (List (Str × PyData))} (h : EvT prog w hb n sc e m) (hr : PrT prog w hb n sc ks es ms) (hx : wf (.str (Str.ofString x)) = true) :
    PrT prog w hb n sc (some (.Constant (.str (Str.ofString x)) k kp) :: ks) (e :: es) (fun ρ => (m ρ).bind fun a => (ms ρ).bind fun r => some ((Str.ofString x, a) :: r)) := by
  intro A Hz env s₀ X C ρ O s r pos Q E hs hA I
  refine bindI fun a ha => bindI fun r' hr' hm hQ => ?_
  (have e := si hm; subst e; clear hm)
  refine pairTrees_cons_walk (wpAny_Constant_str ?_)
  have k₀ := keeps_toks s (s.toks + 1)
  refine h hs hA (I.grow k₀) ha fun u as s₁ k₁ r₁ nd c fr => hr hs hA ((I.grow k₀).grow k₁) hr' fun us bs s₂ k₂ r₂ nd2 fr2 => ?_
  refine hQ _ (as ++ bs) _ (keeps_trans k₀ (keeps_trans k₁ k₂)) (.cons hx c (r₁.grow (keeps_grow k₂)) r₂) ?_ fun y hy => ?_
  · rw [List.nodup_append]
    refine ⟨nd, nd2, fun y hy z hz q => ?_⟩
    obtain ⟨o, ho⟩ := r₁.alive y hy
    rw [q, fr2 z hz] at ho; exact no ho
  · rcases List.mem_append.mp hy with hy | hy
    · exact fr y hy
    · cases e : s.heap.get? y with
      | none => rfl
      | some o =>
        have := keeps_grow k₁ y o e
        rw [fr2 y hy] at this; exact no this
theorem RTs.str {h : Heap} {us : List (Value × Value)} {ds : List (Str × PyData)} {as : List Addr} (r : RTs prog w Hz h us ds as) : allStrKeys us = true ∧ (strPairs us).map (·.1) = ds.map (·.1) ∧ RDs prog w Hz h ((strPairs us).map (·.2)) (ds.map (·.2)) as ∧ ∀ p ∈ ds, wf (.str p.1) = true ∧ wf p.2 = true := by
  induction r with
  | nil => exact ⟨rfl, rfl, .nil, fun _ q => nomatch q⟩
  | cons a b c _ ih =>
    refine ⟨ih.1, by simp only [strPairs, List.map_cons, ih.2.1], .cons c ih.2.2.1, fun p hp => ?_⟩
    rcases List.mem_cons.mp hp with rfl | hp
    · exact ⟨a, b⟩
    · exact ih.2.2.2 p hp
theorem EvT.dict {keys : List (Option Expr)} {values : List Expr} {pos : Pos} {m : Rho → Option (List (Str × PyData))} (h : PrT prog w hb n sc keys values m) (hall : keys.all (·.isSome) = true) (hl : keys.length = values.length) (h0 : keys ≠ [])
    (hlen : keys.length ≤ 15) : EvT prog w hb n sc (.Dict keys values pos) (fun ρ => (m ρ).bind fun r => if (r.map (·.1)).Nodup ∧ r.length ≤ sizeLine then some (dictOf r) else none) := by
  intro A Hz env s₀ X C ρ O s d Q E hs hA I
  refine bindI fun r hr => ifI fun hc hm hQ => ?_
  · cases hm
    refine wpAny_Dict_walk (knd := strKind prog w) hall hl h0 hlen ?_
    have k₀ := keeps_push s { cls := .type "dict", data := .dict #[] }
    refine h hs hA (I.grow k₀) hr fun us as s₁ k₁ r₁ nd fr => ?_
    obtain ⟨q1, q2, q3, q4⟩ := r₁.str
    have hz : s.heap.get? s.heap.objs.size = none := get?_size_none _ (Nat.le_refl _)
    have hmod : (s.heap.objs.size == sysModules) = false := by
      obtain ⟨o, ho⟩ := I.base.mods
      have := Heap.lt_size (I.base.grow _ _ ho)
      simpa using (Nat.ne_of_gt this)
    have hd : s₁.heap.DictOf (strKind prog w) s.heap.objs.size [] := (Heap.DictOf.new s.heap).keep (keeps_grow k₁)
    have hDas : s.heap.objs.size ∉ as := fun q => by
      have := fr _ q
      rw [Heap.get?_push_size s.heap rfl] at this; cases this
    refine ⟨strPairs us, carries_strPairs prog w us q1, hd, fun h' hm' hs' => ?_⟩
    rw [merged_nil_of_nodup _ (by rw [q2]; exact hc.1)] at hm'
    have g : Grow s.heap h' := fun b o e => by
      have hne : b ≠ s.heap.objs.size := fun e' => by rw [e', hz] at e; exact no e
      rw [hs'.2 b hne]
      exact keeps_grow k₁ _ _ (Grow.push _ _ _ _ e)
    have kb : KeptAt s₁.heap h' as := fun b o e q => by
      have hne : b ≠ s.heap.objs.size := fun e' => by
        subst e'
        rcases q with q | ⟨vs, kk, rfl⟩
        · exact hDas q
        · obtain ⟨o', es, ep, ho', hx, _⟩ := hd
          rw [ho'] at e
          (have e := si e; subst e; clear e)
          have := hx.1
          simp at this
      rw [hs'.2 b hne]; exact e
    obtain ⟨h1, t1, e1, _⟩ := keeps_trans k₀ k₁
    refine hQ _ (s.heap.objs.size :: as) _ ⟨h', _, by rw [e1], g⟩ (.dict hm' hmod q2 (kept_both.2 q3 kb)) (List.nodup_cons.mpr ⟨hDas, nd⟩) (wf_dictOf.mpr ⟨hc.2, q4⟩) fun a ha => ?_
    rcases List.mem_cons.mp ha with rfl | ha
    · exact hz
    · cases e : s.heap.get? a with
      | none => rfl
      | some o =>
        have := Grow.push s.heap { cls := .type "dict", data := .dict #[] } a o e
        rw [fr a ha] at this; exact no this
section
variable {s₀ s s' : Shared} {X : List Addr} {env : Env} {C : List Addr} {ρ : Rho} {O : List (String × List Addr)}
theorem InS.growTree (I : InS prog w Hz hb s₀ X env C ρ O s) (k : Keeps s s') (x : String) {as : List Addr} (hf : ∀ a ∈ as, s.heap.get? a = none) (ha : ∀ a ∈ as, ∃ o, s'.heap.get? a = some o ∧ ¬ Tup o) (nd : as.Nodup) :
    InS prog w Hz hb s₀ X env C (ρ.del x) ((x, as) :: O) s' := by
  have hW : ∀ b, b ∈ WW env C ((x, as) :: O) → b ∈ WW env C O ∨ b ∈ as := by
    intro b hb'
    simp only [WW, List.flatMap_cons, List.mem_cons, List.mem_append] at hb' ⊢
    rcases hb' with h | h | h | h
    · exact .inl (.inl h)
    · exact .inl (.inr (.inl h))
    · exact .inr h
    · exact .inl (.inr (.inr h))
  have hW' : ∀ b ∈ WW env C ((x, as) :: O), b ∈ WW env C O ∨ s.heap.get? b = none := fun b h => (hW b h).imp id (hf b)
  have g := keeps_grow k
  have I' := I.grow k
  have ne : ∀ a ∈ as, a ∉ WW env C O := fun a h => (I.toInF.fresh (hf a h)).2
  have turn : ∀ y, y ≠ x → ∀ u vv, RepVV prog w Hz s₀.heap (WW env C O) O s.heap y u vv → RepVV prog w Hz s₀.heap (WW env C ((x, as) :: O)) ((x, as) :: O) s'.heap y u vv := fun y hy u vv r =>
    r.turn (Z := []) (Off.of_grow g) (fun b o e _ => g b o e) (fun _ _ _ _ q => nomatch q) hW' (by rw [List.lookup_cons, beq_eq_false_iff_ne.mpr hy])
  refine ⟨⟨I'.same, I'.base, I'.keep, I'.alive, fun a h => ?_, fun a h => ?_, ?_, I.kind, I.glob, I.bult, I.clk, ?_, fun y vv e1 e2 => ?_⟩, I.fc, I.finj, I'.cello⟩
  · exact (hW a h).elim (I'.walive a) (ha a)
  · rcases hW a h with h | h
    · exact I.wfresh a h
    · refine ⟨?_, fun _ => (I.toInF.fresh (hf a h)).1⟩
      cases e : hb.get? a with
      | none => rfl
      | some o' =>
        have := I.base.grow _ _ e
        rw [hf a h] at this; exact no this
  · have N := I.wnodup
    unfold WW at N ⊢
    rw [List.nodup_cons, List.nodup_append] at N
    rw [List.flatMap_cons, List.nodup_cons, List.nodup_append, List.nodup_append]
    refine ⟨fun q => ?_, N.2.1, ⟨nd, N.2.2.1, fun a h b h' e => ne a h (e ▸ List.mem_cons_of_mem _ (List.mem_append_right _ h'))⟩, fun a h b h' e => ?_⟩
    · rcases List.mem_append.mp q with q | q
      · exact N.1 (List.mem_append_left _ q)
      · rcases List.mem_append.mp q with q | q
        · exact ne _ q (.head _)
        · exact N.1 (List.mem_append_right _ q)
    · rcases List.mem_append.mp h' with h' | h'
      · exact ne b h' (e ▸ List.mem_cons_of_mem _ (List.mem_append_left _ h))
      · exact N.2.2.2 a h b h' e
  · obtain ⟨m, hm, hv⟩ := I.ns
    refine ⟨m, hm.keeps g, fun y vv e1 e2 => ?_⟩
    have e1' : (if y = x then none else ρ y) = some vv := e1
    by_cases hy : y = x
    · rw [if_pos hy] at e1'; exact no e1'
    · rw [if_neg hy] at e1'
      obtain ⟨u, a, b⟩ := hv y vv e1' e2
      exact ⟨u, a, turn y hy u vv b⟩
  · have e1' : (if y = x then none else ρ y) = some vv := e1
    by_cases hy : y = x
    · rw [if_pos hy] at e1'; exact no e1'
    · rw [if_neg hy] at e1'
      obtain ⟨c, u, a, b, d⟩ := I.cell y vv e1' e2
      exact ⟨c, u, a, isCell_grow b g, turn y hy u vv d⟩
end
noncomputable def DefT (prog : Program) (w : World) (hb : Heap) (n : Nat) (x : String) (d : PyData) : Prop :=
  ∃ f o fd, GName hb x (.ref f) ∧ hb.get? f = some o ∧ o.data = .func fd ∧ ∀ ⦃A : Around⦄ ⦃Hz : List Addr⦄ ⦃s : Shared⦄ ⦃Q : Value → Shared → Prop⦄ ⦃E : Value → Shared → Prop⦄, Room A n → Base prog Hz hb s.heap →
    (∀ u as s', Keeps s s' → RD prog w Hz s'.heap u d as → as.Nodup → wf d = true → (∀ a ∈ as, s.heap.get? a = none) → Q u s') → wpAny (model prog w) A (call (.ref f) []) Q E s
theorem DefT.of {x : String} {e : Expr} {pos : Pos} {m : Rho → Option PyData} {d : PyData} (D : DefAt hb x sc [] [.Return (some e) pos]) (h : EvT prog w hb n sc e m) (hm : m (rho0 [] []) = some d) : DefT prog w hb (n + 1) x d := by
  obtain ⟨f, g, D⟩ := D
  obtain ⟨fo, fd, args, ho, hd, hp, hnm, hbd, hsc, hcl, hdf, hgl, hbu, hcr⟩ := D.there
  refine ⟨f, fo, fd, g, ho, hd, ?_⟩
  intro A Hz s Q E hA b hQ
  have hul : args.length = ([] : List Value).length := by simpa using congrArg List.length hnm
  have hnames : (args.map (·.arg)).Nodup := by rw [hnm]; exact List.nodup_nil
  refine wpAny_call (codeAny_call_function (fd := fd) (body := [.Return (some e) pos]) (by have := hA.depth; lia) (b.grow _ _ ho) hd (by rw [hsc]; exact D.co) (by rw [hsc]; exact D.gen) hbd (hcr.keeps b.grow) ?_)
  rw [bind_plain hp hdf hul hnames, hnm, hsc, hgl, hcl, hbu]
  refine wpAny_pure (wpAny_newFunctionEnv_cells D.kind (fun z hz => by simp at hz) fun env he s' x => ?_)
  have e1 : env.scope = sc := by rw [he]; rfl
  have e2 : env.globals = mainGlobals := by rw [he]; rfl
  have e3 : env.builtins = builtinsNs := by rw [he]; rfl
  have e4 : env.cells = cellsFrom (env.locals + 1) sc.names [] := by rw [he]; rfl
  have I := InS.start (w := w) (ps := []) b e1 D.kind e2 e3 e4 D.once D.names .nil rfl x
  refine ⟨I.base.nolimit, codeAny_func ?_⟩
  have pe : PlainEnv env := ⟨by rw [e1]; exact D.gen, by rw [e1]; exact D.co, e3, e2⟩
  refine wpAny_execs_cons (wpAny_Return_some (h e1 (hA.deeper pe) I.toInF hm fun u as s'' k rd nd c fr => ?_))
  have kk : Keeps s s' := by
    obtain ⟨h', tk, e⟩ := I.same
    exact ⟨h', tk, e, fun b o eb => by have := I.keep b o eb (by simp); rw [e] at this; exact this⟩
  refine hQ u as s'' (keeps_trans kk k) rd nd c fun a ha => ?_
  cases e : s.heap.get? a with
  | none => rfl
  | some o =>
    have := keeps_grow kk a o e
    rw [fr a ha] at this; exact no this
theorem S1.ownTree {x f : String} {k : Nat} {d : PyData} {np cp p pos : Pos} (h : DefT prog w hb k f d) (hn : isNode d = true) (hv : isVar sc x = true) (hx' : isGlob sc f = true) (hk : k ≤ n) (hstar : ∀ env : Env, (backTo cp (starEach [] env)).any (·.1) = false)
    (hsw : ∀ env : Env, env.scope = sc → swapsWith (.Call (.Name (Str.ofString f) np) [] [] cp) (some (.Name (Str.ofString x) p)) pos.line env = pure false) :
    S1 prog w hb n sc (.Assign [.Name (Str.ofString x) p] (.Call (.Name (Str.ofString f) np) [] [] cp) pos) (fun ρ => some (.next (ρ.set x (.own (.tree none d))))) := by
  intro A Hz env s₀ X C ρ O s r Q E hs hA I hm hQ
  (have e := si hm; subst e; clear hm)
  obtain ⟨fa, fo, fd, g, ho, hfd, hf⟩ := h
  refine wpAny_Assign_Name ?_ (hsw env hs)
  show wpAny _ _ (eval (.Name (Str.ofString f) np) env >>= fun f => callWith cp f [] (backTo cp (starEach [] env)) []) _ _ s
  refine wpAny_bind (eval_glob I.toInF (by rw [hs]; exact hx') g (callWith_ok (.inr (.inr ⟨fa, fo, fd, rfl, ho, hfd⟩)) (hstar env) (wpAny_items_nil ⟨I.base.grow, ?_⟩)))
  refine hf (hA.toRoom.mono hk) I.base fun u as s₁ k₁ rd nd c fr => ?_
  have al := nontup_both.1 rd
  have I₂ := I.growTree k₁ x fr al nd
  have hu : ∃ a, u = .ref a := by
    cases d with
    | list xs => obtain ⟨a, _, _, _, e, _⟩ := rd.list_inv; exact ⟨a, e⟩
    | dict xs =>
      generalize hd : PyData.dict xs = D at rd
      cases rd with
      | dict _ _ _ _ => exact ⟨_, rfl⟩
      | val _ => exact ⟨_, rfl⟩
      | store _ _ => exact ⟨_, rfl⟩
      | inst _ _ _ _ _ => exact ⟨_, rfl⟩
      | _ => cases hd
    | _ => cases hn
  obtain ⟨a, rfl⟩ := hu
  refine I₂.store (v := .own (.tree none d)) (by rw [hs]; exact hv) ⟨as, by rw [List.lookup_cons, beq_self_eq_true], .tree rd nd c hn (fun _ q => nomatch q)⟩ fun s' I' t => hQ _ s' (by rw [← del_set]; exact I') (Step.trans ⟨fun b o e _ => keeps_grow k₁ b o e, fun b hb' => ?_⟩ t)
  simp only [WW, List.flatMap_cons, List.mem_cons, List.mem_append] at hb' ⊢
  rcases hb' with h | h | h | h
  · exact .inl (.inl h)
  · exact .inl (.inr (.inl h))
  · exact .inr (fr b h)
  · exact .inl (.inr (.inr h))
end

section
theorem forD_ret {bind : V → Rho → Option Rho} {body : Rho → Option Out} {f : Fl} {x y : PyData} {xs : List PyData} {ρ ρ₁ : Rho} (h : bind (V.fix x f) ρ = some ρ₁) (h' : run body ρ₁ = some (.ret y)) : forD bind body f (x :: xs) ρ = some (.ret y) := by
  unfold forD
  rw [h]
  simp only [Option.bind_some]
  rw [show body ρ₁ = _ from h']; rfl
theorem forD_next {bind : V → Rho → Option Rho} {body : Rho → Option Out} {f : Fl} {x : PyData} {xs : List PyData} {ρ ρ₁ ρ₂ : Rho} {o : Out} (h : bind (V.fix x f) ρ = some ρ₁) (h' : run body ρ₁ = some (.next ρ₂)) (h'' : forD bind body f xs ρ₂ = some o) : forD bind body f (x :: xs) ρ = some o := by
  unfold forD
  rw [h]
  simp only [Option.bind_some]
  rw [show body ρ₁ = _ from h']; exact h''
theorem forR {mi : Rho → Option (List PyData × Fl)} {bind : V → Rho → Option Rho} {mb : Rho → Option Out} {ρ : Rho} {o : Out} (xs : List PyData) (f : Fl) (hi : itr mi ρ = some (xs, f)) (hf : f ≠ .t) (h : forD bind mb f xs ρ = some o) :
    run (fun ρ => (mi ρ).bind fun v => if v.2 = .t then none else forD bind mb v.2 v.1 ρ) ρ = some o := by
  dsimp only [run]; rw [show mi ρ = _ from hi]; simp only [Option.bind_some, if_neg hf]; exact h
end

section
section
variable {x : String} {mp : Rho → PyData → Option (PyData × (PyData → PyData))} {m mi : Rho → Option V} {ρ : Rho} {ro : Option Addr} {d d' : PyData} {up : PyData → PyData} {xs ys : List PyData} {kvs : List (PyData × PyData)} {v k : V} {key : Str}
theorem run_pAppend (xs : List PyData) (y : PyData) (up : PyData → PyData) (h1 : treeOf ρ x = some (ro, d)) (h2 : mp ρ d = some (.list xs, up)) (h3 : evl m ρ = some v) (hv : v.x = y) (h4 : flat y = true) (h5 : xs.length + 1 ≤ sizeLine) (h6 : up (.list (xs ++ [y])) = d') :
    run (mAppend x mp m) ρ = some (.next (ρ.set x (.own (.tree ro d')))) := by
  subst hv
  dsimp only [run, mAppend]
  rw [h1, Option.bind_some]
  dsimp only
  rw [h2, Option.bind_some]
  dsimp only
  rw [show listOfD (.list xs) = some xs from rfl, Option.bind_some, show m ρ = some v from h3, Option.bind_some, if_pos ⟨h4, h5⟩, h6]
theorem run_pAppendL {ms : Rho → Option (List V)} {vs : List V} (xs ys : List PyData) (up : PyData → PyData) (h1 : treeOf ρ x = some (ro, d)) (h2 : mp ρ d = some (.list xs, up)) (h3 : ms ρ = some vs) (hv : vs.map (·.x) = ys) (h4 : flats ys = true) (h5 : ys.length ≤ sizeLine) (h5' : xs.length + 1 ≤ sizeLine) (h6 : up (.list (xs ++ [.list ys])) = d') :
    run (mAppendL x mp ms) ρ = some (.next (ρ.set x (.own (.tree ro d')))) := by
  subst hv
  dsimp only [run, mAppendL]
  rw [h1, Option.bind_some]
  dsimp only
  rw [h2, Option.bind_some]
  dsimp only
  rw [show listOfD (.list xs) = some xs from rfl, Option.bind_some, h3, Option.bind_some, if_pos ⟨h4, by simpa using h5, h5'⟩, h6]
theorem run_pSet (kvs : List (PyData × PyData)) (key : Str) (y : PyData) (up : PyData → PyData) (h1 : treeOf ρ x = some (ro, d)) (h3 : evl m ρ = some v) (hv : v.x = y) (h2 : mp ρ d = some (.dict kvs, up)) (hk : evl mi ρ = some k) (hkx : k.x = .str key) (h4 : flat y = true) (h5 : kvs.length + 1 ≤ sizeLine) (h6 : up (.dict (setD key y kvs)) = d') (hpk : plainK kvs = true) :
    run (mSet x mp mi m) ρ = some (.next (ρ.set x (.own (.tree ro d')))) := by
  subst hv
  dsimp only [run, mSet]
  rw [h1, Option.bind_some, show m ρ = some v from h3, Option.bind_some]
  dsimp only
  rw [h2, Option.bind_some]
  dsimp only
  rw [show dictOfD (.dict kvs) = some kvs from if_pos hpk, Option.bind_some, show mi ρ = some k from hk, Option.bind_some, hkx, show keyOf (.str key) = some key from rfl, Option.bind_some, if_pos ⟨h4, h5⟩, h6]
theorem run_pSetF {mf : Rho → Option (List PyData)} (kvs : List (PyData × PyData)) (key : Str) (ys : List PyData) (up : PyData → PyData) (h1 : treeOf ρ x = some (ro, d)) (h3 : mf ρ = some ys) (h2 : mp ρ d = some (.dict kvs, up)) (hk : evl mi ρ = some k) (hkx : k.x = .str key) (h4 : flats ys = true) (h5 : kvs.length + 1 ≤ sizeLine) (h6 : up (.dict (setD key (.list ys) kvs)) = d') (hpk : plainK kvs = true) :
    run (mSetF x mp mi mf) ρ = some (.next (ρ.set x (.own (.tree ro d')))) := by
  dsimp only [run, mSetF]
  rw [h1, Option.bind_some, h3, Option.bind_some]
  dsimp only
  rw [h2, Option.bind_some]
  dsimp only
  rw [show dictOfD (.dict kvs) = some kvs from if_pos hpk, Option.bind_some, show mi ρ = some k from hk, Option.bind_some, hkx, show keyOf (.str key) = some key from rfl, Option.bind_some, if_pos ⟨h4, h5⟩, h6]
theorem run_pExtend (xs ys : List PyData) (up : PyData → PyData) (h1 : treeOf ρ x = some (ro, d)) (h2 : mp ρ d = some (.list xs, up)) (h3 : evl m ρ = some ⟨.list ys, .d⟩) (h4 : flats ys = true) (h5 : xs.length + ys.length ≤ sizeLine) (h6 : up (.list (xs ++ ys)) = d') :
    run (mExtend x mp m) ρ = some (.next (ρ.set x (.own (.tree ro d')))) := by
  dsimp only [run, mExtend]
  rw [h1, Option.bind_some]
  dsimp only
  rw [h2, Option.bind_some]
  dsimp only
  rw [show listOfD (.list xs) = some xs from rfl, Option.bind_some, show m ρ = _ from h3, Option.bind_some]
  dsimp only
  rw [show listOfD (.list ys) = some ys from rfl, Option.bind_some, if_pos ⟨h4, h5, rfl⟩, h6]
theorem run_pAug (xs : List PyData) (j a b : Int) (up : PyData → PyData) (h1 : treeOf ρ x = some (ro, d)) (h2 : mp ρ d = some (.list xs, up)) (hk : evl mi ρ = some k) (hkx : k.x = .int j) (h0 : 0 ≤ j) (hj : xs[j.toNat]? = some (.int a)) (h3 : evl m ρ = some v) (hv : v.x = .int b) (h6 : up (.list (xs.set j.toNat (.int (a + b)))) = d') :
    run (mAug x mp mi m) ρ = some (.next (ρ.set x (.own (.tree ro d')))) := by
  dsimp only [run, mAug]
  rw [h1, Option.bind_some]
  dsimp only
  rw [h2, Option.bind_some]
  dsimp only
  rw [show listOfD (.list xs) = some xs from rfl, Option.bind_some, show mi ρ = some k from hk, Option.bind_some, hkx, show intOf (.int j) = some j from rfl, Option.bind_some, if_pos h0, hj, Option.bind_some, show intOf (.int a) = some a from rfl, Option.bind_some, show m ρ = some v from h3, Option.bind_some, hv, show intOf (.int b) = some b from rfl, Option.bind_some, h6]
theorem proc_next {ps : List String} {px : String} {mm : Rho → Option Out} {a : Addr} {args : List PyData} {ρ' : Rho} (hl : args.length = ps.length) (hd : (ps.zip args).lookup px = some d) (h : run mm ((rho0 ps args).set px (.own (.tree (some a) d))) = some (.next ρ')) (ht : treeOf ρ' px = some (some a, d')) : procD ps px mm a args = some d' := by
  unfold procD
  rw [if_pos hl, hd, Option.bind_some, show mm _ = _ from h, Option.bind_some]
  dsimp only
  rw [ht, Option.bind_some, if_pos rfl]
end
theorem proc_ex {ps : List String} {px : String} {mm : Rho → Option Out} {a : Addr} {args : List PyData} {d d' : PyData} (hl : args.length = ps.length) (hd : (ps.zip args).lookup px = some d) (h : ∃ ρ', run mm ((rho0 ps args).set px (.own (.tree (some a) d))) = some (.next ρ') ∧ treeOf ρ' px = some (some a, d')) : procD ps px mm a args = some d' := by
  obtain ⟨ρ', h1, h2⟩ := h
  exact proc_next hl hd h1 h2
open Classical in
noncomputable def procS (ps : List String) (px : String) (m : Rho → Option Out) (xs : List PyData) : Option PyData := if ∀ a, procD ps px m a xs = procD ps px m 0 xs then procD ps px m 0 xs else none
theorem procS_all {ps : List String} {px : String} {m : Rho → Option Out} {xs : List PyData} {d : PyData} (h : procS ps px m xs = some d) (a : Addr) : procD ps px m a xs = some d := by
  unfold procS at h
  split at h
  · rename_i hq; rw [hq a]; exact h
  · exact no h
theorem procS_of {ps : List String} {px : String} {m : Rho → Option Out} {xs : List PyData} {d : PyData} (h : ∀ a, procD ps px m a xs = some d) : procS ps px m xs = some d := by
  unfold procS
  rw [if_pos fun a => (h a).trans (h 0).symm]; exact h 0
theorem run_put {ρ : Rho} {e : Rho → Option V} {s : String} (x : PyData) (h : evl e ρ = some ⟨x, .d⟩) : run (fun ρ => (e ρ).bind (putV ρ s)) ρ = some (.next (ρ.set s (.val ⟨x, .d⟩))) := by
  dsimp only [run]; rw [show e ρ = _ from h]; rfl
end

section
variable {prog : Program} {w : World} {Hz : List Addr} {hb : Heap} {n : Nat} {sc : Scope}
noncomputable def attrNames : List Str := storeNames ++ valNames
structure Cls (ns : List Str) (hb : Heap) (C : Addr) (mN : Str → Option Value) : Prop where
  here : ∃ N, PyProof.Rows.ClsAt hb C N mN
  ga : mN "__getattribute__" = none
  gh : mN "__getattr__" = none
  sa : mN "__setattr__" = none
  attrs : ∀ y ∈ ns, mN y = none
  obj : ∀ y ∈ ns, typeLookup (.type "object") y = pure none
theorem obj_attr : ∀ y ∈ attrNames, typeLookup (.type "object") y = pure none := by
  intro y hy
  simp only [attrNames, storeNames, valNames, List.cons_append, List.nil_append, List.mem_cons, List.not_mem_nil, or_false] at hy
  rcases hy with rfl | rfl | rfl | rfl | rfl | rfl | rfl | rfl <;> (rw [typeLookup_type, builtinLookup_eq_fast]; kernel_rfl)
theorem RD.handed {h : Heap} {v : Value} {x : PyData} {as : List Addr} (r : RD prog w Hz h v x as) : handedOut v = pure v := by
  cases r <;> rfl
section
variable {A : Around} {E : Value → Shared → Prop} {s : Shared} {C : Addr} {mN m : Str → Option Value} {a dx : Addr}
theorem attr_get {nl : List Str} {y : Str} {v : Value} {ex : Bool} {Q : Value → Shared → Prop} (K : Cls nl hb C mN) (b : Grow hb s.heap) (i : IAt s.heap a dx C m) (hy : y ∈ nl) (hv : m y = some v) (hh : handedOut v = pure v) (hQ : ∀ s', Keeps s s' → s'.heap = s.heap → Q v s') :
    wpAny (model prog w) A (getAttr (.ref a) y ex) Q E s := by
  obtain ⟨h, g, d, t, os⟩ := s
  obtain ⟨N, X⟩ := K.here
  obtain ⟨nm, q, bs, sn, sub, col, dd, k0, k1, k2, k3, k5, hC⟩ := (X.keeps b).obj
  exact load_attr hC (X.keeps b).ns K.ga (K.attrs y hy) (K.obj y hy) i.inst hv hh (hQ _ (keeps_toks _ _) rfl)
theorem attr_set {nl : List Str} {y : Str} {v : Value} {ns : List Str} {Q : Unit → Shared → Prop} (K : Cls nl hb C mN) (b : Grow hb s.heap) (i : IAt s.heap a dx C m) (hy : y ∈ nl) (hn : Within m ns) (hl : ns.length ≤ 20) (hf : hb.get? a = none)
    (hQ : ∀ h' tk, IAt h' a dx C (fun z => if z = y then some v else m z) → (∀ c o, c ≠ a → c ≠ dx → s.heap.get? c = some o → h'.get? c = some o) → Q () { s with heap := h', toks := tk }) :
    wpAny (model prog w) A (setAttr (.ref a) y v) Q E s := by
  obtain ⟨h, g, d, t, os⟩ := s
  obtain ⟨N, X⟩ := K.here
  obtain ⟨nm, q, bs, sn, sub, col, dd, k0, k1, k2, k3, k5, hC₀⟩ := X.obj
  have hxC : a ≠ C := by rintro rfl; rw [hf] at hC₀; exact no hC₀
  have hz : ns.length ≤ sizeLine := Nat.le_trans hl (by decide)
  refine store_attr PySem.F.store_object (b _ _ hC₀) (X.keeps b).ns K.sa (K.attrs y hy) (K.obj y hy) hxC i.inst (fun h' tk' I' hk hsame => ?_) hn hz
  obtain ⟨o, e1, e2, e3, e4, e5, e6⟩ := i
  obtain ⟨o₁, f1, f2, f3, f4, f5⟩ := hsame o e1
  obtain ⟨o', g1, g2, g3, g4⟩ := I'
  obtain rfl := Option.some.inj (f1.symm.trans g1)
  refine hQ h' tk' ⟨o₁, f1, g2, (by rw [f3]; exact e3), f5 dx e4, e5, ?_⟩ fun c ob h1 h2 q => hk c ob h1 (fun o₀ d' q1 q2 => by
    obtain rfl := Option.some.inj (e1.symm.trans q1)
    obtain rfl := Option.some.inj (e4.symm.trans q2)
    exact h2) q
  rcases g4 with ⟨g4, _⟩ | ⟨d', g4, _, g5⟩
  · rw [f5 dx e4] at g4; cases g4
  · obtain rfl := Option.some.inj ((f5 dx e4).symm.trans g4)
    exact g5
end
noncomputable def oneD : PyData → Option (PyData × PyData)
  | .dict [kv] => some kv
  | _ => none
noncomputable def tupD : PyData → Option (List PyData)
  | .tuple xs => some xs
  | _ => none
noncomputable def storeP (C V : Addr) (x : PyData) : Option (Int × List PyData) := (oneD x).bind fun kv => (tupD kv.1).bind fun ks => (tupD kv.2).bind fun fs =>
  if (ks[0]?.bind intOf) = some (C : Int) ∧ (ks[1]?.bind intOf) = some (V : Int) then (ks[2]?.bind intOf).map fun p => (p, fs) else none
noncomputable def valP (V : Addr) (x : PyData) : Option (Int × Int) := (oneD x).bind fun kv => (intOf kv.1).bind fun v => if v = (V : Int) then (tupD kv.2).bind fun fs => (fs[0]?.bind intOf).bind fun a => (fs[1]?.bind intOf).map fun b => (a, b) else none
noncomputable def stL (f : StF) : List PyData := [f.told, .int f.opened, f.given, f.standing, .tuple (f.held.map fun q => .tuple [.str q.1, .int q.2]), .tuple (f.worth.map fun q => .tuple [.int q.1, .int q.2])]
theorem storeP_store (C V p : Addr) (f : StF) : storeP C V (storeD C V p f) = some ((p : Int), stL f) := by
  show (if some (C : Int) = some (C : Int) ∧ some (V : Int) = some (V : Int) then some ((p : Int), stL f) else none) = _
  rw [if_pos ⟨rfl, rfl⟩]
theorem valP_val (V : Addr) (x y : Int) : valP V (valD V x y) = some (x, y) := by
  show (if (V : Int) = (V : Int) then some (x, y) else none) = _
  rw [if_pos rfl]
theorem oneD_dict {xs : List (Str × PyData)} {kv : PyData × PyData} (h : oneD (dictOf xs) = some kv) : ∃ k, kv.1 = .str k := by
  rcases xs with _ | ⟨p, _ | ⟨q, xs⟩⟩
  · exact no h
  · (have e := si h; subst e; clear h); exact ⟨_, rfl⟩
  · exact no h
section
variable (prog w Hz)
inductive StoreI (h : Heap) (C V : Addr) : Value → PyData → Int × List PyData → List Addr → Prop
  | mk (a dx hd p : Addr) (pool : List (Addr × Addr)) (f : StF) (vs : List Value) (m : Str → Option Value) (ks : List (Str × Value)) (bs : List Addr) (i : StoreAt prog w h a dx C V p hd pool f vs m ks) (r : RDs prog w Hz h vs [f.told, f.given, f.standing] bs) : StoreI h C V (.ref a) (storeD C V p f) ((p : Int), stL f) (footS a dx hd pool ++ bs)
inductive StoreJ (h : Heap) (C V : Addr) (u : Value) (x : PyData) (q : Int × List PyData) (as : List Addr) : Prop
  | mk (a dx hd p : Addr) (pool : List (Addr × Addr)) (f : StF) (vs : List Value) (m : Str → Option Value) (ks : List (Str × Value)) (bs : List Addr) (h1 : u = .ref a) (h2 : x = storeD C V p f) (h3 : q = ((p : Int), stL f)) (h4 : as = footS a dx hd pool ++ bs) (i : StoreAt prog w h a dx C V p hd pool f vs m ks) (r : RDs prog w Hz h vs [f.told, f.given, f.standing] bs) : StoreJ h C V u x q as
end
theorem RD.storeI {C V : Addr} {h : Heap} {u : Value} {x : PyData} {as : List Addr} {q : Int × List PyData} (r : RD prog w Hz h u x as) (e : storeP C V x = some q) : StoreI prog w Hz h C V u x q as := by
  cases r with
  | @store a dx C' V' p hd pool f vs m ks bs i rs =>
    replace e : (if some (C' : Int) = some (C : Int) ∧ some (V' : Int) = some (V : Int) then some ((p : Int), stL f) else Option.none) = some q := e
    by_cases hv : some (C' : Int) = some (C : Int) ∧ some (V' : Int) = some (V : Int)
    · rw [if_pos hv] at e
      obtain rfl := Option.some.inj e
      obtain rfl : C' = C := Int.ofNat.inj (Option.some.inj hv.1)
      obtain rfl : V' = V := Int.ofNat.inj (Option.some.inj hv.2)
      exact ⟨a, dx, hd, p, pool, f, vs, m, ks, bs, i, rs⟩
    · rw [if_neg hv] at e; exact no e
  | dict =>
    obtain ⟨kv, h1, h2⟩ := bindE e
    obtain ⟨k, hk⟩ := oneD_dict h1
    rw [hk] at h2; exact no h2
  | _ => exact no e
theorem RD.store_inv {C V : Addr} {h : Heap} {u : Value} {x : PyData} {as : List Addr} {q : Int × List PyData} (r : RD prog w Hz h u x as) (e : storeP C V x = some q) : StoreJ prog w Hz h C V u x q as := by
  induction r.storeI e with | mk a dx hd p pool f vs m ks bs i rs => ?_
  exact ⟨a, dx, hd, p, pool, f, vs, m, ks, bs, rfl, rfl, rfl, rfl, i, rs⟩
theorem RD.val_inv {V : Addr} {h : Heap} {u : Value} {x : PyData} {as : List Addr} {q : Int × Int} (r : RD prog w Hz h u x as) (e : valP V x = some q) : ∃ b db, u = .ref b ∧ as = [b, db] ∧ ValAt h V b db q.1 q.2 := by
  cases r with
  | @val V' b db y z i =>
    replace e : (if (V' : Int) = (V : Int) then some (y, z) else Option.none) = some q := e
    by_cases hv : (V' : Int) = (V : Int)
    · rw [if_pos hv] at e
      obtain rfl := Option.some.inj e
      obtain rfl : V' = V := Int.ofNat.inj hv
      exact ⟨b, db, rfl, rfl, i⟩
    · rw [if_neg hv] at e; exact no e
  | dict =>
    obtain ⟨kv, h1, h2⟩ := bindE e
    obtain ⟨k, hk⟩ := oneD_dict h1
    rw [hk] at h2; exact no h2
  | _ => exact no e
noncomputable def worthAt (V : Addr) (ws : List PyData) (i : PyData) : PyData := match ((intOf i).bind fun k => ws[k.toNat]?).bind fun t => (tupD t).bind fun xs => (xs[0]?.bind intOf).bind fun a => (xs[1]?.bind intOf).map fun b => (a, b) with
  | some q => valD V q.1 q.2
  | none => .none
noncomputable def heldK (V : Addr) (ws : List PyData) (t : PyData) : PyData × PyData := match tupD t with
  | some [k, i] => (k, worthAt V ws i)
  | _ => (.none, .none)
noncomputable def heldR (V : Addr) (fs : List PyData) : PyData := match (fs[4]?.bind tupD), (fs[5]?.bind tupD) with
  | some hs, some ws => .dict (hs.map (heldK V ws))
  | _, _ => .none
noncomputable def sAttrs (V : Addr) (fs : List PyData) : List (String × PyData) := ["told", "opened", "given", "standing"].zip fs ++ [("held", heldR V fs)]
noncomputable def attrS (C V : Addr) (y : String) (x : PyData) : Option PyData := match storeP C V x with
  | some q => (sAttrs V q.2).lookup y
  | none => (valP V x).bind fun q => [("amount", .int q.1), ("opening", PyData.int q.2)].lookup y
theorem attrS_store (C V p : Addr) (f : StF) (y : String) : attrS C V y (storeD C V p f) = (sAttrs V (stL f)).lookup y := by unfold attrS; rw [storeP_store]
theorem attrS_told (C V p : Addr) (f : StF) : attrS C V "told" (storeD C V p f) = some f.told := attrS_store ..
theorem attrS_opened (C V p : Addr) (f : StF) : attrS C V "opened" (storeD C V p f) = some (.int f.opened) := attrS_store ..
theorem attrS_given (C V p : Addr) (f : StF) : attrS C V "given" (storeD C V p f) = some f.given := attrS_store ..
theorem attrS_standing (C V p : Addr) (f : StF) : attrS C V "standing" (storeD C V p f) = some f.standing := attrS_store ..
theorem attrS_held (C V p : Addr) (f : StF) : attrS C V "held" (storeD C V p f) = some (heldR V (stL f)) := attrS_store ..
theorem attrS_val (C V : Addr) (x y : Int) (z : String) : attrS C V z (valD V x y) = [("amount", .int x), ("opening", PyData.int y)].lookup z := by
  unfold attrS
  rw [show storeP C V (valD V x y) = none from rfl, valP_val]; rfl
theorem attrS_amount (C V : Addr) (x y : Int) : attrS C V "amount" (valD V x y) = some (.int x) := attrS_val ..
theorem attrS_opening (C V : Addr) (x y : Int) : attrS C V "opening" (valD V x y) = some (.int y) := attrS_val ..
noncomputable def valOf (V : Addr) (ws : List (Int × Int)) (i : Nat) : PyData := match ws[i]? with
  | some q => valD V q.1 q.2
  | none => .none
noncomputable def heldD (V : Addr) (f : StF) : PyData := dictOf (f.held.map fun q => (q.1, valOf V f.worth q.2))
theorem heldR_eq (V : Addr) (f : StF) : heldR V (stL f) = heldD V f := by
  show PyData.dict ((f.held.map fun q => PyData.tuple [.str q.1, .int q.2]).map (heldK V (f.worth.map fun q => .tuple [.int q.1, .int q.2]))) = _
  unfold heldD dictOf
  rw [List.map_map, List.map_map]
  congr 1
  refine List.map_congr_left fun q _ => ?_
  show (PyData.str q.1, worthAt V _ (.int q.2)) = (PyData.str q.1, valOf V f.worth q.2)
  congr 1
  unfold worthAt valOf
  have e : ((intOf (.int (q.2 : Int))).bind fun k => (f.worth.map fun q => PyData.tuple [.int q.1, .int q.2])[k.toNat]?) = (f.worth[q.2]?).map fun q => PyData.tuple [.int q.1, .int q.2] := by
    show (f.worth.map fun q => PyData.tuple [.int q.1, .int q.2])[q.2]? = _
    rw [List.getElem?_map]
  rw [e]
  cases f.worth[q.2]? <;> rfl
section
variable (prog w Hz)
inductive GetI (h : Heap) (f : StF) (m : Str → Option Value) : List Value → List Addr → Prop
  | mk (v1 v2 v3 : Value) (b1 b2 b3 : List Addr) (g1 : m "told" = some v1) (g2 : m "given" = some v2) (g3 : m "standing" = some v3) (r1 : RD prog w Hz h v1 f.told b1) (r2 : RD prog w Hz h v2 f.given b2) (r3 : RD prog w Hz h v3 f.standing b3) : GetI h f m [v1, v2, v3] (b1 ++ (b2 ++ b3))
end
theorem StoreAt.get {h : Heap} {a dx C Va p hd : Addr} {pool : List (Addr × Addr)} {f : StF} {vs : List Value} {m : Str → Option Value} {ks : List (Str × Value)} {bs : List Addr} (i : StoreAt prog w h a dx C Va p hd pool f vs m ks) (r : RDs prog w Hz h vs [f.told, f.given, f.standing] bs) :
    GetI prog w Hz h f m vs bs := by
  have e := i.three
  cases r with
  | cons r1 r =>
    cases r with
    | cons r2 r =>
      cases r with
      | cons r3 r =>
        cases r
        simp only [List.map_cons, List.map_nil, List.cons.injEq, and_true] at e
        rw [List.append_nil]
        exact ⟨_, _, _, _, _, _, e.1, e.2.1, e.2.2, r1, r2, r3⟩
theorem wf_fields {C Va p : Addr} {f : StF} (c : wf (storeD C Va p f) = true) : wf f.told = true ∧ wf f.given = true ∧ wf f.standing = true := by
  simp only [storeD, wf, wfk, wfs, Bool.and_eq_true, Bool.and_true] at c
  exact ⟨c.2.2.2.1, c.2.2.2.2.2.1, c.2.2.2.2.2.2.1⟩
theorem RDs.held {h : Heap} {V : Addr} {pool : List (Addr × Addr)} {ws : List (Int × Int)} (hl : pool.length = ws.length) (each : ∀ (i : Nat) (b db : Addr) (x y : Int), pool[i]? = some (b, db) → ws[i]? = some (x, y) → ValAt h V b db x y) :
    ∀ (hs : List (Str × Nat)), (∀ q ∈ hs, q.2 < pool.length) → ∃ bs, RDs prog w Hz h (hs.map fun q => .ref (pool.getD q.2 (0, 0)).1) (hs.map fun q => valOf V ws q.2) bs ∧ ∀ c ∈ bs, c ∈ pool.flatMap fun q => [q.1, q.2]
  | [], _ => ⟨[], .nil, fun _ q => nomatch q⟩
  | q :: hs, hb => by
    obtain ⟨bs, r, sub⟩ := RDs.held hl each hs fun q hq => hb q (.tail _ hq)
    have h1 := hb q (.head _)
    have e1 : pool[q.2]? = some pool[q.2] := List.getElem?_eq_getElem h1
    have e2 : ws[q.2]? = some (ws[q.2]'(hl ▸ h1)) := List.getElem?_eq_getElem _
    have v := each q.2 pool[q.2].1 pool[q.2].2 _ _ e1 e2
    have e3 : pool.getD q.2 (0, 0) = pool[q.2] := by rw [List.getD_eq_getElem?_getD, e1]; rfl
    have e4 : valOf V ws q.2 = valD V (ws[q.2]'(hl ▸ h1)).1 (ws[q.2]'(hl ▸ h1)).2 := by unfold valOf; rw [e2]
    refine ⟨[pool[q.2].1, pool[q.2].2] ++ bs, ?_, fun c hc => (List.mem_append.mp hc).elim (fun hc => List.mem_flatMap.mpr ⟨_, List.getElem_mem h1, hc⟩) (sub c)⟩
    rw [List.map_cons, List.map_cons, e3, e4]
    exact .cons (.val v) r
theorem StoreAt.heldRD {h : Heap} {a dx C Va p hd : Addr} {pool : List (Addr × Addr)} {f : StF} {vs : List Value} {m : Str → Option Value} {ks : List (Str × Value)} (i : StoreAt prog w h a dx C Va p hd pool f vs m ks) :
    ∃ bs, RD prog w Hz h (.ref hd) (heldD Va f) (hd :: bs) ∧ ∀ c ∈ hd :: bs, c ∈ footS a dx hd pool := by
  obtain ⟨bs, r, sub⟩ := RDs.held (Hz := Hz) (prog := prog) (w := w) i.len i.each f.held i.bound
  refine ⟨bs, .dict (kvs := ks) (xs := f.held.map fun q => (q.1, valOf Va f.worth q.2)) i.dict i.mods (by rw [List.map_map]; exact i.keys) (by rw [i.vals, List.map_map]; exact r), fun c hc => ?_⟩
  rcases List.mem_cons.mp hc with rfl | hc
  · simp [footS]
  · exact .tail _ (.tail _ (.tail _ (sub c hc)))
theorem wf_valOf (V : Addr) (ws : List (Int × Int)) (i : Nat) : wf (valOf V ws i) = true := by
  unfold valOf
  cases ws[i]? with
  | none => rfl
  | some q =>
    have h1 : 1 ≤ sizeLine := by decide
    have h2 : 2 ≤ sizeLine := by decide
    simp [valD, wf, wfk, wfs, h1, h2]
theorem wf_held {C Va p : Addr} {f : StF} (c : wf (storeD C Va p f) = true) : wf (heldD Va f) = true := by
  simp only [storeD, wf, wfk, wfs, Bool.and_eq_true, decide_eq_true_eq, Bool.and_true, List.length_map] at c
  obtain ⟨hl, hk⟩ := c.2.2.2.2.2.2.2.1
  rw [heldD, wf_dictOf]
  refine ⟨by rw [List.length_map]; exact hl, fun q hq => ?_⟩
  obtain ⟨x, hx, rfl⟩ := List.mem_map.mp hq
  refine ⟨?_, wf_valOf _ _ _⟩
  have := (wfs_iff _).mp hk _ (List.mem_map.mpr ⟨x, hx, rfl⟩)
  rw [wf_tuple] at this
  exact (wfs_iff _).mp this.2 _ (.head _)
section
variable (prog w Hz)
inductive AttrI (h : Heap) (C Va : Addr) (y : String) (z : PyData) (as : List Addr) : Value → Prop
  | mk (a dx D : Addr) (m : Str → Option Value) (v : Value) (bs : List Addr) (h1 : D = C ∧ Str.ofString y ∈ storeNames ∨ D = Va ∧ Str.ofString y ∈ valNames) (h2 : IAt h a dx D m) (h3 : m (Str.ofString y) = some v) (h4 : RD prog w Hz h v z bs) (h5 : ∀ c ∈ bs, c ∈ as) (h6 : wf z = true) : AttrI h C Va y z as (.ref a)
end
theorem RD.attr {C Va : Addr} {h : Heap} {u : Value} {x z : PyData} {as : List Addr} {y : String} (r : RD prog w Hz h u x as) (e : attrS C Va y x = some z) (c : wf x = true) : AttrI prog w Hz h C Va y z as u := by
  unfold attrS at e
  split at e
  · rename_i q hq
    induction r.storeI hq with | mk a dx hd p pool f vs m ks bs i rs => ?_
    induction i.get rs with | mk v1 v2 v3 b1 b2 b3 g1 g2 g3 r1 r2 r3 => ?_
    obtain ⟨t, ht⟩ := i.opened
    obtain ⟨c1, c2, c3⟩ := wf_fields c
    have key : ∀ (v : Value) (bs : List Addr), Str.ofString y ∈ storeNames → m (Str.ofString y) = some v → RD prog w Hz h v z bs → (∀ c ∈ bs, c ∈ footS a dx hd pool ++ (b1 ++ (b2 ++ b3))) → wf z = true → AttrI prog w Hz h C Va y z (footS a dx hd pool ++ (b1 ++ (b2 ++ b3))) (.ref a) := fun v bs k1 k2 k3 k4 k5 => ⟨a, dx, C, m, v, bs, .inl ⟨rfl, k1⟩, i.obj, k2, k3, k4, k5⟩
    have hm : (y, z) ∈ [("told", f.told), ("opened", .int f.opened), ("given", f.given), ("standing", f.standing), ("held", heldR Va (stL f))] := lookup_mem e
    rw [heldR_eq] at hm
    rcases List.mem_cons.mp hm with q | hm
    · cases q; exact key v1 b1 (by decide) g1 r1 (fun c hc => by simp [hc]) c1
    rcases List.mem_cons.mp hm with q | hm
    · cases q; exact key _ [] (by decide) ht (.int _ _) (fun c hc => (nomatch hc)) rfl
    rcases List.mem_cons.mp hm with q | hm
    · cases q; exact key v2 b2 (by decide) g2 r2 (fun c hc => by simp [hc]) c2
    rcases List.mem_cons.mp hm with q | hm
    · cases q; exact key v3 b3 (by decide) g3 r3 (fun c hc => by simp [hc]) c3
    · cases List.mem_singleton.mp hm
      obtain ⟨bs, r4, sub⟩ := i.heldRD (Hz := Hz)
      exact key _ _ (by decide) i.held r4 (fun c hc => List.mem_append_left _ (sub c hc)) (wf_held c)
  · obtain ⟨q, hq, e⟩ := bindE e
    obtain ⟨b, db, rfl, rfl, m, t, u, i, g1, g2, _⟩ := r.val_inv hq
    have hm := lookup_mem e
    rcases List.mem_cons.mp hm with q | hm
    · cases q; exact ⟨b, db, Va, m, _, [], .inr ⟨rfl, by decide⟩, i, g1, .int _ _, fun c hc => (nomatch hc), rfl⟩
    · cases List.mem_singleton.mp hm; exact ⟨b, db, Va, m, _, [], .inr ⟨rfl, by decide⟩, i, g2, .int _ _, fun c hc => (nomatch hc), rfl⟩
noncomputable abbrev AttrForm (e : Expr) (y : Str) (pos : Pos) : Prop := ∀ env : Env, eval (.Attribute e y pos) env = (do
      let o ← eval e env
      standAt pos.atName
      let r ← holding [o] (getAttr o y true)
      letTemporaryGo e o r
      pure r)
theorem Ev.attr {C Va : Addr} {mC mV : Str → Option Value} {e : Expr} {y : String} {pos : Pos} {m : Rho → Option V} (KC : Cls storeNames hb C mC) (KV : Cls valNames hb Va mV) (h : Ev prog w hb n sc e m) (he : AttrForm e (Str.ofString y) pos) :
    Ev prog w hb n sc (.Attribute e (Str.ofString y) pos) (fun ρ => (m ρ).bind fun v => (attrS C Va y v.x).map fun x => V.fix x v.fl) := by
  intro A Hz env s₀ X C' ρ O s v Q E hs hA I
  refine bindI fun v0 hv hm hQ => ?_
  induction mapE hm with | mk z hz => ?_
  refine PyProof.Rows.Attribute_any_ (h hs hA I hv fun u s₁ k₁ r₁ => ?_) (he env)
  obtain ⟨as, rd, c, fl⟩ := r₁
  induction rd.attr hz c with | mk a dx D mm v' bs hD i hg r' hsub c' => ?_
  have g := (I.grow k₁).base.grow
  have fin : ∀ s', Keeps s₁ s' → s'.heap = s₁.heap → Q v' s' := fun s' k e => hQ _ _ (keeps_trans k₁ k) (Rep.fixed (by rw [e]; exact r') c' (fl.mono hsub))
  rcases hD with ⟨rfl, hin⟩ | ⟨rfl, hin⟩
  · exact attr_get KC g i hin hg r'.handed fin
  · exact attr_get KV g i hin hg r'.handed fin
noncomputable def ListAt (prog : Program) (w : World) (hb : Heap) (p : Addr) (ps : List PyData) : Prop := ∃ vs k, hb.get? p = some (lstObj vs k) ∧ RDs prog w [] hb vs ps [] ∧ wf (.list ps) = true
noncomputable def plotsAt (C Va p : Addr) (ps : List PyData) (x : PyData) : Option V := (storeP C Va x).bind fun q => if q.1 = (p : Int) then some ⟨.list ps, .s⟩ else none
theorem plotsAt_store (C Va p : Addr) (ps : List PyData) (f : StF) : plotsAt C Va p ps (storeD C Va p f) = some ⟨.list ps, .s⟩ := by unfold plotsAt; rw [storeP_store, Option.bind_some, if_pos rfl]
theorem Ev.plots {C Va p : Addr} {ps : List PyData} {mC : Str → Option Value} {e : Expr} {pos : Pos} {m : Rho → Option V} (KC : Cls storeNames hb C mC) (P : ListAt prog w hb p ps) (h : Ev prog w hb n sc e m) (he : AttrForm e (Str.ofString "plots") pos) :
    Ev prog w hb n sc (.Attribute e (Str.ofString "plots") pos) (fun ρ => (m ρ).bind fun v => plotsAt C Va p ps v.x) := by
  intro A Hz env s₀ X C' ρ O s v Q E hs hA I
  refine bindI fun v0 hv => bindI fun q hk => ifI fun hp hm hQ => ?_
  · (have e := si hm; subst e; clear hm)
    refine PyProof.Rows.Attribute_any_ (h hs hA I hv fun u s₁ k₁ r₁ => ?_) (he env)
    obtain ⟨as, rd, c, fl⟩ := r₁
    have I₁ := I.grow k₁
    have g := I₁.base.grow
    obtain ⟨a, dx, hd, p', pool, f, vs, m', ks, bs, rfl, hx, rfl, rfl, i, rs⟩ := rd.store_inv hk
    obtain rfl : p' = p := Int.ofNat.inj hp
    obtain ⟨us, k, e1, e2, e3⟩ := P
    refine attr_get KC g i.obj (by decide) i.plots rfl fun s' k' e' => hQ _ _ (keeps_trans k₁ k') ⟨[p'], ?_, e3, ?_⟩
    · rw [e']
      exact .list (g _ _ e1) (((lift0 fun z hz => (I₁.base.hide z hz).1).2 e2).grow g)
    · intro c hc hw
      rw [List.mem_singleton.mp hc] at hw
      have := (I₁.wfresh _ hw).1
      rw [this] at e1; exact no e1
section
variable {A : Around} {E : Value → Shared → Prop} {s : Shared} {env : Env}
theorem call_inst {nl : List Str} {o e : Expr} {rest : List Expr} {name : Str} {apos pos : Pos} {C f : Addr} {mC : Str → Option Value} {fo : Obj} {fd : FuncData} {r : Option Value} {Q : Value → Shared → Prop} (KC : Cls nl hb C mC) (hf : mC name = some (.ref f)) (hfo : hb.get? f = some fo) (hfc : fo.cls = .type "function") (hfd : fo.data = .func fd)
    (hB : typeLookup (.type "object") name = pure r) (hbase : attributeBase o name env (eval o env) = eval o env)
    (hfew : ((backTo pos (starEach (e :: rest) env)).all (fun x => !x.1) && (backToKw pos (keywordEach [] env)).all (fun x => x.1.isSome) && decide ((e :: rest).length + ([] : List Keyword).length + (if ([] : List Keyword).isEmpty then 0 else 1) < 30)) = true)
    (hline : (apos.endLine == pos.line) = true) (he : starEach (e :: rest) env = (false, eval e env) :: starEach rest env)
    (h : wpAny (model prog w) A (eval o env) (fun ov s₁ => ∃ a dx m, ov = .ref a ∧ IAt s₁.heap a dx C m ∧ m name = none ∧ Grow hb s₁.heap ∧
      wpAny (model prog w) A (spliced (backTo pos (starEach (e :: rest) env))) (fun vs s₂ => Grow hb s₂.heap ∧ wpAny (model prog w) A (call (.ref f) (.ref a :: vs)) Q E s₂) E s₁) E s) :
    wpAny (model prog w) A (eval (.Call (.Attribute o name apos) (e :: rest) [] pos) env) Q E s := by
  rw [arm_eval_Call, hbase]
  refine wpAny_bind (wpAny_mono h (fun ov s₁ h₁ => ?_) fun _ _ e => e)
  obtain ⟨a, dx, m, rfl, i, hm, g, hc⟩ := h₁
  refine wpAny_bind (wpAny_standAt ?_)
  have hform : methodCallForm ((e :: rest).length + ([] : List Keyword).length) (backTo pos (starEach (e :: rest) env)) (backToKw pos (keywordEach [] env)) = true := hfew
  have hpos : methodCallPos true o env apos pos = pure pos := by unfold methodCallPos; simp [hline]
  unfold methodCall
  rw [hform]
  obtain ⟨hh, gg, d, t, os⟩ := s₁
  obtain ⟨N, X⟩ := KC.here
  obtain ⟨nm, q, bs, sn, sub, col, dd, k0, k1, k2, k3, k5, hC⟩ := (X.keeps g).obj
  refine wpAny_bind (wpAny_holding (method_of hC (X.keeps g).ns KC.ga KC.gh hf (g _ _ hfo) hfc hB i.inst hm ?_))
  exact wpAny_bind (wpAny_of_eq hpos (PyProof.Rows.callWith_meth (h₀ := hb) hfd hfo hc he))
end
structure MethP (prog : Program) (w : World) (hb : Heap) (n : Nat) (C : Addr) (y : String) (m : List PyData → Option PyData) : Prop where
  there : ∃ mC f fo fd r, Cls storeNames hb C mC ∧ mC (Str.ofString y) = some (.ref f) ∧ hb.get? f = some fo ∧ fo.cls = .type "function" ∧ fo.data = .func fd ∧ typeLookup (.type "object") (Str.ofString y) = pure r ∧ Fn prog w hb n f m
  own : Str.ofString y ∉ storeNames
noncomputable def storeLike (C Va : Addr) (x : PyData) : Bool := (storeP C Va x).isSome
theorem storeLike_store (C Va p : Addr) (f : StF) : storeLike C Va (storeD C Va p f) = true := by unfold storeLike; rw [storeP_store]; rfl
theorem Ev.meth {C Va : Addr} {y : String} {o e : Expr} {rest : List Expr} {ap pos : Pos} {k : Nat} {mo : Rho → Option V} {ms : Rho → Option (List V)} {m : List PyData → Option PyData} (M : MethP prog w hb k C y m) (ho : Ev prog w hb n sc o mo) (hes : Evs prog w hb n sc (e :: rest) ms) (hk : k ≤ n)
    (hbase : ∀ env : Env, attributeBase o (Str.ofString y) env (eval o env) = eval o env)
    (hfew : ∀ env : Env, ((backTo pos (starEach (e :: rest) env)).all (fun x => !x.1) && (backToKw pos (keywordEach [] env)).all (fun x => x.1.isSome) && decide ((e :: rest).length + ([] : List Keyword).length + (if ([] : List Keyword).isEmpty then 0 else 1) < 30)) = true)
    (hline : (ap.endLine == pos.line) = true) (he : ∀ env : Env, starEach (e :: rest) env = (false, eval e env) :: starEach rest env) :
    Ev prog w hb n sc (.Call (.Attribute o (Str.ofString y) ap) (e :: rest) [] pos) (fun ρ => (mo ρ).bind fun v => (ms ρ).bind fun vs => if storeLike C Va v.x = true then (m (v.x :: vs.map (·.x))).map fun z => ⟨z, .d⟩ else none) := by
  intro A Hz env s₀ X C' ρ O s v Q E hs hA I
  refine bindI fun v0 hv => bindI fun vs hvs hm hQ => ?_
  split at hm
  · rename_i hst
    induction mapE hm with | mk z hz => ?_
    obtain ⟨⟨mC, f, fo, fd, r, KC, h1, h2, h3, h4, h5, h6⟩, hown⟩ := M
    refine call_inst (hb := hb) KC h1 h2 h3 h4 h5 (hbase env) (hfew env) hline (he env) (ho hs hA I hv fun u s₁ k₁ r₁ => ?_)
    obtain ⟨as, rd, c, fl⟩ := id r₁
    have I₁ := I.grow k₁
    obtain ⟨pf, hkd⟩ := Option.isSome_iff_exists.mp hst
    obtain ⟨a, dx, hd, p', pool, f', us, m', ks, bs, rfl, hx, _, rfl, i, rs⟩ := rd.store_inv hkd
    refine ⟨a, dx, m', rfl, i.obj, ?_, I₁.base.grow, hes hs hA I₁ hvs fun us' s₂ k₂ r₂ => ?_⟩
    · cases e : m' (Str.ofString y) with
      | none => rfl
      | some v => exact absurd (i.names _ (by rw [e]; simp)) hown
    · refine ⟨(I₁.grow k₂).base.grow, ?_⟩
      exact CallOk.fn (h6.mono hk) hA (I₁.grow k₂) (.cons (r₁.grow (keeps_grow k₂)) r₂) (show ((m ((v0 :: vs).map (·.x))).map fun y => (⟨y, .d⟩ : V)) = some ⟨z, .d⟩ by rw [List.map_cons, hz]; rfl) fun u s' k' r' => hQ u s' (keeps_trans k₁ (keeps_trans k₂ k')) r'
  · exact no hm
noncomputable def fld (y : String) : Option (Fin 3) := if y = "told" then some 0 else if y = "given" then some 1 else if y = "standing" then some 2 else none
noncomputable def ixF : Fin 3 → Nat
  | 0 => 0
  | 1 => 2
  | 2 => 3
noncomputable def StF.put (f : StF) : Fin 3 → PyData → StF
  | 0, z => { f with told := z }
  | 1, z => { f with given := z }
  | 2, z => { f with standing := z }
noncomputable abbrev StF.three (f : StF) : List PyData := [f.told, f.given, f.standing]
noncomputable def setA (j : Nat) (z : PyData) : PyData → PyData
  | .dict [(k, .tuple fs)] => .dict [(k, .tuple (fs.set j z))]
  | x => x
theorem setA_store (C Va p : Addr) (f : StF) (i : Fin 3) (z : PyData) : setA (ixF i) z (storeD C Va p f) = storeD C Va p (f.put i z) := by
  rcases i with ⟨_ | _ | _ | i, hi⟩
  · rfl
  · rfl
  · rfl
  · lia
noncomputable def placeA (C Va : Addr) (y : String) (x : PyData) : Option (PyData × (PyData → PyData)) :=
  (fld y).bind fun i => (storeP C Va x).bind fun r => (r.2[ixF i]?).map fun z => (z, fun z' => setA (ixF i) z' x)
theorem placeA_store (C Va p : Addr) (f : StF) {y : String} {i : Fin 3} (h : fld y = some i) : placeA C Va y (storeD C Va p f) = some (f.three[i], fun z => storeD C Va p (f.put i z)) := by
  unfold placeA
  rw [h, Option.bind_some, storeP_store, Option.bind_some]
  rcases i with ⟨_ | _ | _ | i, hi⟩
  · rfl
  · rfl
  · rfl
  · lia
theorem wf_store {C Va p : Addr} {f : StF} : wf (storeD C Va p f) = true ↔ wf f.told = true ∧ wf f.given = true ∧ wf f.standing = true ∧ wf (.tuple (f.held.map fun q => .tuple [.str q.1, .int q.2])) = true ∧ wf (.tuple (f.worth.map fun q => .tuple [.int q.1, .int q.2])) = true := by
  unfold storeD
  generalize PyData.tuple (f.held.map fun q => .tuple [.str q.1, .int q.2]) = a
  generalize PyData.tuple (f.worth.map fun q => .tuple [.int q.1, .int q.2]) = b
  have h1 : 1 ≤ sizeLine := by decide
  have h3 : 3 ≤ sizeLine := by decide
  have h6 : 6 ≤ sizeLine := by decide
  simp [wf, wfk, wfs, h1, h3, h6]
theorem wf_put {C Va p : Addr} {f : StF} (c : wf (storeD C Va p f) = true) (i : Fin 3) {z : PyData} (hz : wf z = true) : wf (storeD C Va p (f.put i z)) = true := by
  rw [wf_store] at c ⊢
  rcases i with ⟨_ | _ | _ | i, hi⟩
  · exact ⟨hz, c.2⟩
  · exact ⟨c.1, hz, c.2.2⟩
  · exact ⟨c.1, c.2.1, hz, c.2.2.2⟩
  · lia
theorem StoreAt.put {h : Heap} {a dx C Va p hd : Addr} {pool : List (Addr × Addr)} {f : StF} {vs : List Value} {m : Str → Option Value} {ks : List (Str × Value)} (i : StoreAt prog w h a dx C Va p hd pool f vs m ks) (j : Fin 3) (z : PyData) :
    StoreAt prog w h a dx C Va p hd pool (f.put j z) vs m ks := by
  rcases j with ⟨_ | _ | _ | j, hj⟩
  · exact ⟨i.obj, i.held, i.opened, i.plots, i.three, i.names, i.dict, i.mods, i.keys, i.vals, i.bound, i.len, i.each⟩
  · exact ⟨i.obj, i.held, i.opened, i.plots, i.three, i.names, i.dict, i.mods, i.keys, i.vals, i.bound, i.len, i.each⟩
  · exact ⟨i.obj, i.held, i.opened, i.plots, i.three, i.names, i.dict, i.mods, i.keys, i.vals, i.bound, i.len, i.each⟩
  · lia
theorem fld_name {y : String} {i : Fin 3} (h : fld y = some i) : Str.ofString y ∈ storeNames ∧ ∀ m : Str → Option Value, [m "told", m "given", m "standing"][i.val]? = some (m (Str.ofString y)) := by
  unfold fld at h
  split at h
  · rename_i hy; subst hy; (have e := si h; subst e; clear h); exact ⟨by decide, fun _ => rfl⟩
  split at h
  · rename_i hy; subst hy; (have e := si h; subst e; clear h); exact ⟨by decide, fun _ => rfl⟩
  split at h
  · rename_i hy; subst hy; (have e := si h; subst e; clear h); exact ⟨by decide, fun _ => rfl⟩
  · exact no h
section
variable (prog w Hz)
inductive HAttr (h : Heap) (u : Value) (d : PyData) (as : List Addr) (C : Addr) (y : String) (z : PyData) (up g : PyData → PyData) : Value → Prop
  | mk (a dx : Addr) (mm : Str → Option Value) (v' : Value) (b' : List Addr) (h1 : IAt h a dx C mm) (h2 : mm (Str.ofString y) = some v') (h3 : Str.ofString y ∈ storeNames) (h4 : Hole prog w Hz h u d as v' z b' (fun t => up (g t))) : HAttr h u d as C y z up g (.ref a)
end
theorem Hole.attr {h : Heap} {u v : Value} {d x z : PyData} {as b : List Addr} {up g : PyData → PyData} {C Va : Addr} {y : String} (H : Hole prog w Hz h u d as v x b up) (e : placeA C Va y x = some (z, g)) :
    HAttr prog w Hz h u d as C y z up g v := by
  obtain ⟨i, hi, e⟩ := bindE e
  obtain ⟨r, hr, e⟩ := bindE e
  induction H.node.storeI hr with | mk a dx hd p pool f vs m ks bs I rs => ?_
  · · obtain ⟨hin, hat⟩ := fld_name hi
      obtain ⟨z', hz', e⟩ := Option.map_eq_some_iff.mp e
      have e3 : f.three[i.val]? = some z := by
        cases e
        rcases i with ⟨_ | _ | _ | i, hj⟩
        · exact hz'
        · exact hz'
        · exact hz'
        · lia
      have eg : g = fun z' => storeD C Va p (f.put i z') := by
        cases e
        funext z'
        exact setA_store C Va p f i z'
      induction rs.hole e3 with | mk v' l' b' m' g1 g3 g4 => ?_
      obtain ⟨l, mr, e', ff⟩ := H.split
      have hv' : m (Str.ofString y) = some v' := by
        have q := hat m
        rw [I.three, List.getElem?_map, g1] at q
        exact (Option.some.inj q).symm
      have c3 := wf_fields H.wfn
      have cz : wf z = true := by
        rcases i with ⟨_ | _ | _ | i, hj⟩
        · (have e := si e3; subst e; clear e3); exact c3.1
        · (have e := si e3; subst e; clear e3); exact c3.2.1
        · (have e := si e3; subst e; clear e3); exact c3.2.2
        · lia
      refine ⟨a, dx, m, v', b', I.obj, hv', hin, g3, cz, fun x' hx' => ?_, fun _ _ => H.top _ (by rw [eg]; rfl), H.own, l ++ (footS a dx hd pool ++ l'), m' ++ mr, ?_, fun h' x' b'' k r' => ?_⟩
      · rw [eg]; exact H.wfu _ (wf_put H.wfn i hx')
      · rw [e']; simp
      · have hst : StoreAt prog w h' a dx C Va p hd pool (f.put i x') vs m ks := (I.kept fun c hc o eo => k c o eo (.inl (by simp [hc]))).put i x'
        have hrd : RDs prog w Hz h' vs (f.put i x').three (l' ++ (b'' ++ m')) := by
          have q := g4 h' x' b'' (k.mono fun c hc => by
            simp only [List.mem_append] at hc ⊢
            rcases hc with hc | hc
            · exact .inl (.inr (.inr hc))
            · exact .inr (.inl hc)) r'
          rcases i with ⟨_ | _ | _ | i, hj⟩
          · exact q
          · exact q
          · exact q
          · lia
        have := ff h' _ _ (k.mono fun c hc => by
          simp only [List.mem_append] at hc ⊢
          rcases hc with hc | hc
          · exact .inl (.inl hc)
          · exact .inr (.inr hc)) (RD.store hst hrd)
        rw [eg]
        simpa using this
theorem Pa.attr {C Va : Addr} {mC : Str → Option Value} {x y : String} {e : Expr} {pos : Pos} {m : Rho → PyData → Option (PyData × (PyData → PyData))} (KC : Cls storeNames hb C mC) (h : Pa prog w hb n sc x e m) (he : AttrForm e (Str.ofString y) pos) :
    Pa prog w hb n sc x (.Attribute e (Str.ofString y) pos) (fun ρ d => (m ρ d).bind fun p => (placeA C Va y p.1).map fun q => (q.1, fun z => p.2 (q.2 z))) := by
  intro A Hz env s₀ X C' ρ O s ro d z up Q E hs hA I hx
  refine bindI fun z0 hz hm hQ => ?_
  obtain ⟨z0, up₀⟩ := z0
  obtain ⟨⟨z', g⟩, hp, hm⟩ := Option.map_eq_some_iff.mp hm
  cases hm
  dsimp only at hp
  refine PyProof.Rows.Attribute_any_ (h hs hA I hx hz fun ad as v b s₁ k₁ hO nd r H => ?_) (he env)
  induction H.attr hp with | mk a dx mm v' b' i hv hin H' => ?_
  refine attr_get KC (I.grow k₁).base.grow i hin hv H'.node.handed fun s' k e' => ?_
  have g' : Grow s₁.heap s'.heap := keeps_grow k
  exact hQ ad as v' b' s' (keeps_trans k₁ k) hO nd (r.grow g') (H'.grow g')
theorem setA_opened (C Va p : Addr) (f : StF) (a : Int) : setA 1 (.int a) (storeD C Va p f) = storeD C Va p { f with opened := a } := rfl
theorem wf_opened {C Va p : Addr} {f : StF} (c : wf (storeD C Va p f) = true) (a : Int) : wf (storeD C Va p { f with opened := a }) = true := by
  rw [wf_store] at c ⊢; exact c
theorem StoreAt.setOpened {h h' : Heap} {a dx C Va p hd : Addr} {pool : List (Addr × Addr)} {f : StF} {vs : List Value} {m : Str → Option Value} {ks : List (Str × Value)} (i : StoreAt prog w h a dx C Va p hd pool f vs m ks) {x : Int} {t : Tok}
    (hi : IAt h' a dx C (fun z => if z = Str.ofString "opened" then some (.int x t) else m z)) (k : ∀ c ∈ footS a dx hd pool, c ≠ a → c ≠ dx → ∀ o, h.get? c = some o → h'.get? c = some o) (nd : (footS a dx hd pool).Nodup) :
    StoreAt prog w h' a dx C Va p hd pool { f with opened := x } vs (fun z => if z = Str.ofString "opened" then some (.int x t) else m z) ks := by
  have ne : ∀ c ∈ hd :: pool.flatMap (fun q => [q.1, q.2]), c ≠ a ∧ c ≠ dx := fun c hc => by
    simp only [footS, List.nodup_cons, List.mem_cons, not_or] at nd
    simp only [List.mem_cons] at hc
    refine ⟨?_, ?_⟩
    · rintro rfl
      rcases hc with rfl | hc
      · exact nd.1.2.1 rfl
      · exact nd.1.2.2 hc
    · rintro rfl
      rcases hc with rfl | hc
      · exact nd.2.1.1 rfl
      · exact nd.2.1.2 hc
  have kk : ∀ c ∈ hd :: pool.flatMap (fun q => [q.1, q.2]), ∀ o, h.get? c = some o → h'.get? c = some o := fun c hc => k c (by
    simp only [footS, List.mem_cons] at hc ⊢
    exact .inr (.inr hc)) (ne c hc).1 (ne c hc).2
  refine ⟨hi, ?_, ⟨t, if_pos rfl⟩, ?_, ?_, fun z hz => ?_, ?_, i.mods, i.keys, i.vals, i.bound, i.len, fun j b db y z e1 e2 => ?_⟩
  · rw [if_neg (by decide)]; exact i.held
  · rw [if_neg (by decide)]; exact i.plots
  · rw [if_neg (by decide), if_neg (by decide), if_neg (by decide)]; exact i.three
  · by_cases e : z = Str.ofString "opened"
    · rw [e]; decide
    · rw [if_neg e] at hz; exact i.names z hz
  · obtain ⟨o, es, ep, ho, r⟩ := i.dict
    exact ⟨o, es, ep, kk hd (.head _) o ho, r⟩
  · exact (i.each j b db y z e1 e2).kept fun c hc => kk c (by
      refine List.mem_cons_of_mem _ (List.mem_flatMap.mpr ⟨_, List.mem_of_getElem? e1, ?_⟩)
      simpa using hc)
noncomputable def mOpened (C Va : Addr) (x : String) (m : Rho → Option V) : Rho → Option Out := fun ρ => (treeOf ρ x).bind fun d => (m ρ).bind fun v => (storeP C Va d.2).bind fun q => (q.2[1]?).bind fun z => (intOf z).bind fun a => (intOf v.x).bind fun b => some (.next (ρ.set x (.own (.tree d.1 (setA 1 (.int (a + b)) d.2)))))
theorem mOpened_run {C Va p : Addr} {x : String} {m : Rho → Option V} {ρ : Rho} {ro : Option Addr} {f : StF} {b : Int} {fl : Fl} (h1 : treeOf ρ x = some (ro, storeD C Va p f)) (h2 : m ρ = some ⟨.int b, fl⟩) :
    mOpened C Va x m ρ = some (.next (ρ.set x (.own (.tree ro (storeD C Va p { f with opened := f.opened + b }))))) := by
  unfold mOpened
  rw [h1, Option.bind_some, h2, Option.bind_some, storeP_store, Option.bind_some]
  rfl
theorem S1.opened {C Va : Addr} {mC : Str → Option Value} {x : String} {e : Expr} {np tp pos : Pos} {m : Rho → Option V} (KC : Cls storeNames hb C mC) (h : Ev prog w hb n sc e m) (hv : isVar sc x = true) :
    S1 prog w hb n sc (.AugAssign (.Attribute (.Name (Str.ofString x) np) (Str.ofString "opened") tp) .Add e pos) (mOpened C Va x m) := by
  intro A Hz env s₀ X C' ρ O s r Q E hs hA I
  refine bindI fun z0 hd => bindI fun v hv' => bindI fun q hq => bindI fun z hz => bindI fun a ha => bindI fun b hb' hm hQ => ?_
  obtain ⟨ro, d⟩ := z0
  · cases hm
    obtain rfl := intOf_some ha
    have hx := treeOf_some hd
    dsimp only at hx hq
    refine wpAny_AugAssign_AttributeAny (I.ownedT (by rw [hs]; exact hv) hx fun ad as hO rt nd ct cn => ?_)
    obtain ⟨a', dx, hdd, p, pool, f, vs, mm, ks, bs, e1, rfl, rfl, rfl, i, rs⟩ := rt.store_inv hq
    · cases e1
      obtain ⟨t, ht⟩ := i.opened
      refine attr_get KC I.base.grow i.obj (by decide) ht rfl fun s₁ k₁ e₁ => h hs hA (I.grow k₁).toInF hv' fun u s₂ k₂ r₂ => ?_
      obtain ⟨as2, rv, _, _⟩ := r₂
      obtain rfl : a = f.opened := by
        have q : (stL f)[1]? = some (.int f.opened) := rfl
        rw [q] at hz; cases hz; rfl
      rw [intOf_some hb'] at rv
      induction rv.intI with | mk t2 => ?_
      refine PySem.AutoIntOps.iadd_0 ?_
      have kk := keeps_trans k₁ k₂
      have g := keeps_grow kk
      have I₂ := I.grow kk
      have i₂ := i.kept fun c _ o eo => g c o eo
      have rs₂ := rs.grow g
      have ndf : (footS ad dx hdd pool).Nodup := nd.sublist (List.sublist_append_left _ _)
      have hfr : hb.get? ad = none := (I.wfresh ad (own_sub hO (by simp [footS]))).1
      show wpAny _ _ (setAttr (.ref ad) (Str.ofString "opened") _) _ _ _
      obtain ⟨h2, tk2, rfl, _⟩ := kk
      refine attr_set (s := _) KC I₂.base.grow i₂.obj (by decide) i₂.names (by decide) hfr fun h' tk i' keep => ?_
      have out : ∀ c ∈ bs, c ≠ ad ∧ c ≠ dx := fun c hc => by
        rw [List.nodup_append] at nd
        exact ⟨fun q => nd.2.2 ad (by simp [footS]) c hc q.symm, fun q => nd.2.2 dx (by simp [footS]) c hc q.symm⟩
      have i3 := i₂.setOpened i' (fun c _ n1 n2 o eo => keep c o n1 n2 eo) ndf
      have ntup : ∀ c, c = ad ∨ c = dx → ∃ o, h2.get? c = some o ∧ ¬ Tup o := fun c hc => i₂.obj.alive c (by rcases hc with rfl | rfl <;> simp)
      have rs3 : RDs prog w Hz h' vs [f.told, f.given, f.standing] bs := kept_both.2 rs₂ fun c o eo q => by
        refine keep c o ?_ ?_ eo
        · rintro rfl
          rcases q with q | q
          · exact (out c q).1 rfl
          · obtain ⟨o', eo', nt⟩ := ntup c (.inl rfl)
            have eo2 : h2.get? c = some o := eo
            rw [eo2] at eo'; (have e := si eo'; subst e; clear eo'); exact nt q
        · rintro rfl
          rcases q with q | q
          · exact (out c q).2 rfl
          · obtain ⟨o', eo', nt⟩ := ntup c (.inr rfl)
            have eo2 : h2.get? c = some o := eo
            rw [eo2] at eo'; (have e := si eo'; subst e; clear eo'); exact nt q
      have rd3 : RD prog w Hz h' (.ref ad) (storeD C Va p { f with opened := f.opened + b }) (footS ad dx hdd pool ++ bs) := .store i3 rs3
      have al := nontup_both.1 rd3
      have hs3 : ∀ c o, h2.get? c = some o → c ∉ footS ad dx hdd pool ++ bs → h'.get? c = some o := fun c o eo q => keep c o (fun e => q (by rw [e]; simp [footS])) (fun e => q (by rw [e]; simp [footS])) eo
      have I' := I₂.updTree (tk := tk) hx hO hs3 (fun c hc => (al c hc).imp fun _ q => q.1) (fun c hc => ⟨.inl hc, al c hc⟩) nd (wf_opened ct _) rfl (fun a' q => by
        obtain ⟨_, z1⟩ := node_head q cn
        have z2 : footS ad dx hdd pool ++ bs = ad :: (dx :: hdd :: pool.flatMap (fun q => [q.1, q.2]) ++ bs) := rfl
        rw [z2] at z1
        rw [← (List.cons.inj z1).1]; exact rd3)
      rw [setA_opened] at hQ
      exact hQ _ _ I' ((Step.of_grow g).trans (tree_step hO hs3 fun c hc => .inl hc))
noncomputable def FnR (prog : Program) (w : World) (hb : Heap) (n : Nat) (f : Addr) (ps : List String) (px : String) (m : List PyData → Option (PyData × PyData)) : Prop :=
  ∀ ⦃A : Around⦄ ⦃Hz : List Addr⦄ ⦃s : Shared⦄ ⦃us : List Value⦄ ⦃xs : List PyData⦄ ⦃as₀ as : List Addr⦄ ⦃a : Addr⦄ ⦃d z d' : PyData⦄ ⦃Q : Value → Shared → Prop⦄ ⦃E : Value → Shared → Prop⦄,
    Room A n → Base prog Hz hb s.heap → RDs prog w Hz s.heap us xs as₀ → wfs xs = true → ps.length = us.length → Handed prog w Hz hb s.heap ps px us xs a d as → m xs = some (z, d') →
    (∀ u as' s', (∃ h tk, s' = { s with heap := h, toks := tk }) → (∀ b o, s.heap.get? b = some o → b ∉ as → s'.heap.get? b = some o) → (∀ b o, s.heap.get? b = some o → ∃ o', s'.heap.get? b = some o') → RD prog w Hz s'.heap (.ref a) d' as' → as'.Nodup → wf d' = true →
      (∀ c ∈ as', c ∈ as ∨ s.heap.get? c = none) → RD prog w Hz s'.heap u z [] → wf z = true → Q u s') → wpAny (model prog w) A (call (.ref f) us) Q E s
noncomputable def endR (px : String) (a : Addr) : Out → Option (PyData × PyData)
  | .next ρ => (treeOf ρ px).bind fun q => if q.1 = some a then some (.none, q.2) else none
  | .retT z ρ => (treeOf ρ px).bind fun q => if q.1 = some a then some (z, q.2) else none
  | _ => none
noncomputable def procR (ps : List String) (px : String) (m : Rho → Option Out) (a : Addr) (xs : List PyData) : Option (PyData × PyData) :=
  if xs.length = ps.length then ((ps.zip xs).lookup px).bind fun d => (m ((rho0 ps xs).set px (.own (.tree (some a) d)))).bind (endR px a) else none
theorem tree_end {ρ : Rho} {px : String} {a : Addr} {z x y : PyData} (h : ((treeOf ρ px).bind fun q => if q.1 = some a then some (z, q.2) else none) = some (x, y)) : x = z ∧ ρ px = some (.own (.tree (some a) y)) := by
  obtain ⟨⟨r, d⟩, h1, h2⟩ := bindE h
  dsimp only at h2
  split at h2
  · rename_i e
    cases h2
    have := treeOf_some h1
    dsimp only at this
    rw [e] at this
    exact ⟨rfl, this⟩
  · exact no h2
theorem InS.endTree {s s' : Shared} {as : List Addr} {env : Env} {C : List Addr} {ρ : Rho} {O : List (String × List Addr)} {px : String} {a : Addr} {d : PyData} (J : InS prog w Hz hb s as env C ρ O s') (hx : ρ px = some (.own (.tree (some a) d))) (hv : isVar env.scope px = true) :
    ∃ as', RD prog w Hz s'.heap (.ref a) d as' ∧ as'.Nodup ∧ wf d = true ∧ ∀ c ∈ as', c ∈ as ∨ s.heap.get? c = none := by
  have fin : ∀ u, RepVV prog w Hz s.heap (WW env C O) O s'.heap px u (.own (.tree (some a) d)) → ∃ as', RD prog w Hz s'.heap (.ref a) d as' ∧ as'.Nodup ∧ wf d = true ∧ ∀ c ∈ as', c ∈ as ∨ s.heap.get? c = none := by
    rintro u ⟨sp, e, r⟩
    cases r with
    | tree q1 q2 q3 _ q5 =>
      refine ⟨sp, by rw [q5 a rfl]; exact q1, q2, q3, fun c hc => ?_⟩
      by_cases q : c ∈ as
      · exact .inl q
      · exact .inr ((J.wfresh c (own_sub e hc)).2 q)
  rcases isVar_kinds hv with q | q
  · obtain ⟨mm, hns, hm⟩ := J.ns
    obtain ⟨u, _, r⟩ := hm px _ hx q
    exact fin u r
  · obtain ⟨c, u, _, _, r⟩ := J.cell px _ hx q
    exact fin u r
theorem FnR.def {f : Addr} {ps : List String} {px : String} {body : List Stmt} {m : Rho → Option Out} {spec : List PyData → Option (PyData × PyData)} (D : DefOk hb f sc ps body) (hpx : px ∈ ps) (h : St prog w hb n sc body m) (hm : ∀ a xs r, spec xs = some r → procR ps px m a xs = some r) : FnR prog w hb (n + 1) f ps px spec := by
  intro A Hz s us xs as₀ as a d z d' Q E hA b rd hw hlen T hsp hQ
  have hmm := hm a xs _ hsp
  obtain ⟨fo, fd, args, ho, hd, hp, hnm, hbd, hsc, hcl, hdf, hgl, hbu, hcr⟩ := D.there
  unfold procR at hmm
  split at hmm
  · rename_i hlx
    obtain ⟨d₀, hd₀, hmm⟩ := bindE hmm
    rw [T.dat] at hd₀
    (have e := si hd₀; subst e; clear hd₀)
    obtain ⟨o, ho', hy⟩ := bindE hmm
    have hps : args.length = ps.length := by simpa using congrArg List.length hnm
    have hul : args.length = us.length := hps.trans hlen
    have hnames : (args.map (·.arg)).Nodup := by
      rw [hnm]
      rw [List.Nodup, List.pairwise_map]
      exact D.names.imp fun h e => h (ofString_inj e)
    refine wpAny_call (codeAny_call_function (fd := fd) (body := body) (by have := hA.depth; lia) (b.grow _ _ ho) hd (by rw [hsc]; exact D.co) (by rw [hsc]; exact D.gen) hbd (hcr.keeps b.grow) ?_)
    rw [bind_plain hp hdf hul hnames, hnm, hsc, hgl, hcl, hbu]
    refine wpAny_pure (wpAny_newFunctionEnv_cells D.kind (fun z hz => ?_) fun env he s' x => ?_)
    · have := (List.of_mem_zip hz).1
      obtain ⟨p, hp', e⟩ := List.mem_map.mp this
      rw [← e]
      refine (isVar_kinds (D.vars p hp')).imp id fun q => ⟨q, cells_some _ _ _ (.inl q)⟩
    · have e1 : env.scope = sc := by rw [he]; rfl
      have e2 : env.globals = mainGlobals := by rw [he]; rfl
      have e3 : env.builtins = builtinsNs := by rw [he]; rfl
      have e4 : env.cells = cellsFrom (env.locals + 1) sc.names [] := by rw [he]; rfl
      have I := InS.startX (w := w) b e1 D.kind e2 e3 e4 D.once D.names rd hw hlen T x
      refine ⟨I.base.nolimit, codeAny_func ?_⟩
      have pe : PlainEnv env := ⟨by rw [e1]; exact D.gen, by rw [e1]; exact D.co, e3, e2⟩
      refine h e1 (hA.deeper pe) I ho' ?_
      have hvp : isVar env.scope px = true := by rw [e1]; exact D.vars px hpx
      induction o with
      | next ρ =>
        obtain ⟨rfl, hx⟩ := tree_end hy
        intro O' s'' J T'
        obtain ⟨as', r1, r2, r3, r4⟩ := J.endTree hx hvp
        exact hQ .none as' s'' J.same (fun c o e q => J.keep c o e q) J.alive r1 r2 r3 r4 .none rfl
      | retT z' ρ =>
        obtain ⟨rfl, hx⟩ := tree_end hy
        intro u O' s'' J ru cu
        obtain ⟨as', r1, r2, r3, r4⟩ := J.endTree hx hvp
        exact hQ u as' s'' J.same (fun c o e q => J.keep c o e q) J.alive r1 r2 r3 r4 ru cu
      | ret z => exact no hy
      | brk ρ => exact no hy
      | cont ρ => exact no hy
  · exact no hmm
theorem S1.retT {e : Expr} {pos : Pos} {m : Rho → Option V} (h : Ev prog w hb n sc e m) : S1 prog w hb n sc (.Return (some e) pos) (fun ρ => (m ρ).bind fun v => if flat v.x = true then some (.retT v.x ρ) else none) := by
  intro A Hz env s₀ X C ρ O s r Q E hs hA I
  refine bindI fun v hv' => ifI fun hf hm hQ => ?_
  · (have e := si hm; subst e; clear hm)
    refine wpAny_Return_some (h hs hA I.toInF hv' fun u s₁ k₁ r₁ => ?_)
    obtain ⟨as, ra, ca, oa⟩ := r₁
    obtain rfl := ra.flat_foot hf
    exact hQ u O s₁ (I.grow k₁) ra ca
structure MethR (prog : Program) (w : World) (hb : Heap) (n : Nat) (C : Addr) (y p0 p1 : String) (m : List PyData → Option (PyData × PyData)) : Prop where
  there : ∃ mC f fo fd r, Cls storeNames hb C mC ∧ mC (Str.ofString y) = some (.ref f) ∧ hb.get? f = some fo ∧ fo.cls = .type "function" ∧ fo.data = .func fd ∧ typeLookup (.type "object") (Str.ofString y) = pure r ∧ FnR prog w hb n f [p0, p1] p0 m
  own : Str.ofString y ∉ storeNames
  ne : p1 ≠ p0
noncomputable def mMeth (C Va : Addr) (x : String) (m1 : Rho → Option (List V)) (m : List PyData → Option (PyData × PyData)) (k : Rho → PyData → Option Out) : Rho → Option Out := fun ρ => (treeOf ρ x).bind fun d => (m1 ρ).bind fun vs => match vs with
  | [v] => if storeLike C Va d.2 = true ∧ flat v.x = true then (m [d.2, v.x]).bind fun q => if isNode q.2 = true ∧ flat q.1 = true then k (ρ.set x (.own (.tree d.1 q.2))) q.1 else none else none
  | _ => none
theorem meth_core {C Va : Addr} {x y p0 p1 : String} {e : Expr} {np ap cp : Pos} {k' : Nat} {m1 : Rho → Option (List V)} {m : List PyData → Option (PyData × PyData)} {kk : Rho → PyData → Option Out} (M : MethR prog w hb k' C y p0 p1 m) (h1 : Evs prog w hb n sc [e] m1) (hv : isVar sc x = true) (hk : k' ≤ n)
    (hbase : ∀ env : Env, attributeBase (.Name (Str.ofString x) np) (Str.ofString y) env (eval (.Name (Str.ofString x) np) env) = eval (.Name (Str.ofString x) np) env)
    (hfew : ∀ env : Env, ((backTo cp (starEach [e] env)).all (fun x => !x.1) && (backToKw cp (keywordEach [] env)).all (fun x => x.1.isSome) && decide ([e].length + ([] : List Keyword).length + (if ([] : List Keyword).isEmpty then 0 else 1) < 30)) = true)
    (hline : (ap.endLine == cp.line) = true) (he : ∀ env : Env, starEach [e] env = (false, eval e env) :: starEach [] env)
    {A : Around} {env : Env} {s₀ : Shared} {X C' : List Addr} {ρ : Rho} {O : List (String × List Addr)} {s : Shared} {r : Out} {Q : Value → Shared → Prop} {E : Value → Shared → Prop} (hs : env.scope = sc) (hA : RoomF A n) (I : InS prog w Hz hb s₀ X env C' ρ O s) (hm : mMeth C Va x m1 m kk ρ = some r)
    (hQ : ∀ u z ρ' O' s', kk ρ' z = some r → InS prog w Hz hb s₀ X env C' ρ' O' s' → Step s.heap s'.heap (WW env C' O) (WW env C' O') → RD prog w Hz s'.heap u z [] → wf z = true → flat z = true → Q u s') :
    wpAny (model prog w) A (eval (.Call (.Attribute (.Name (Str.ofString x) np) (Str.ofString y) ap) [e] [] cp) env) Q E s := by
  obtain ⟨⟨ro, d⟩, hd, hm⟩ := bindE hm
  obtain ⟨vs, hvs, hm⟩ := bindE hm
  split at hm
  · rename_i v
    split at hm
    · rename_i hz
      obtain ⟨⟨z, d'⟩, hd', hm⟩ := bindE hm
      dsimp only at hm hz
      split at hm
      · rename_i hno
        have hx := treeOf_some hd
        dsimp only at hx
        obtain ⟨⟨mC, f, fo, fd, rr, KC, g1, g2, g3, g4, g5, hf⟩, hown, hne⟩ := M
        refine call_inst (hb := hb) KC g1 g2 g3 g4 g5 (hbase env) (hfew env) hline (he env) (I.ownedT (by rw [hs]; exact hv) hx fun ad as hO rt nd ct cn => ?_)
        obtain ⟨pf, hkd⟩ := Option.isSome_iff_exists.mp hz.1
        obtain ⟨a, dx, hdd, p', pool, f', us, m', ks, bs, e1, hx', _, hfoot, i, rs⟩ := rt.store_inv hkd
        · · cases e1
            refine ⟨ad, dx, m', rfl, i.obj, ?_, I.base.grow, h1 hs hA I.toInF hvs fun us' s₂ k₂ r₂ => ?_⟩
            · cases e : m' (Str.ofString y) with
              | none => rfl
              | some v => exact absurd (i.names _ (by rw [e]; simp)) hown
            · have I₂ := I.grow k₂
              have g2 := keeps_grow k₂
              refine ⟨I₂.base.grow, ?_⟩
              cases r₂ with
              | @cons u1 _ _ _ r1 r2 =>
                cases r2
                obtain ⟨as1, ra, ca, _⟩ := r1
                obtain rfl := ra.flat_foot hz.2
                have rt := rt.grow g2
                have l1 : (p1 == p0) = false := beq_eq_false_iff_ne.mpr hne
                have H : Handed prog w Hz hb s₂.heap [p0, p1] p0 [.ref ad, u1] [d, v.x] ad d as := by
                  refine ⟨by simp, by simp, rt, cn, nd, fun c hc => (I₂.wfresh c (own_sub hO hc)).1, fun y' u z' q1 q2 q3 => ?_⟩
                  simp only [List.zip_cons_cons, List.lookup_cons] at q1 q2
                  rw [beq_eq_false_iff_ne.mpr q3] at q1 q2
                  simp only at q1 q2
                  by_cases y1 : y' = p1
                  · subst y1
                    simp only [beq_self_eq_true] at q1 q2
                    (have e := si q1; subst e; clear q1); (have e := si q2; subst e; clear q2)
                    exact ⟨[], ra, fun _ q => nomatch q⟩
                  · rw [beq_eq_false_iff_ne.mpr y1] at q1
                    simp at q1
                refine hf (hA.toRoom.mono hk) I₂.base (.cons rt (.cons ra .nil)) (by simp [wfs, ca, ct]) rfl H hd' fun u as' s' sm kp al rd' nd' wf' fr ru cu => ?_
                have hn : ∀ c ∈ as', (c ∈ as ∨ s₂.heap.get? c = none) ∧ ∃ o, s'.heap.get? c = some o ∧ ¬ Tup o := fun c hc => ⟨fr c hc, nontup_both.1 rd' c hc⟩
                have ha : ∀ c ∈ as, ∃ o, s'.heap.get? c = some o := fun c hc => by
                  obtain ⟨o, e, _⟩ := I₂.walive c (own_sub hO hc)
                  exact al c o e
                obtain ⟨h', tk, rfl⟩ := sm
                have I' := I₂.updTree (tk := tk) hx hO kp ha hn nd' wf' hno.1 (fun a' q => by
                  obtain ⟨_, z1⟩ := node_head q cn
                  obtain ⟨_, z2⟩ := node_head rt cn
                  rw [z1] at z2
                  rw [(List.cons.inj z2).1]; exact rd')
                exact hQ u z _ _ _ hm I' ((Step.of_grow g2).trans (tree_step hO kp fun c hc => (hn c hc).1)) ru cu hno.2
      · exact no hm
    · exact no hm
  · exact no hm
theorem S1.methE {C Va : Addr} {x y p0 p1 : String} {e : Expr} {np ap cp pos : Pos} {k' : Nat} {m1 : Rho → Option (List V)} {m : List PyData → Option (PyData × PyData)} (M : MethR prog w hb k' C y p0 p1 m) (h1 : Evs prog w hb n sc [e] m1) (hv : isVar sc x = true) (hk : k' ≤ n)
    (hbase : ∀ env : Env, attributeBase (.Name (Str.ofString x) np) (Str.ofString y) env (eval (.Name (Str.ofString x) np) env) = eval (.Name (Str.ofString x) np) env)
    (hfew : ∀ env : Env, ((backTo cp (starEach [e] env)).all (fun x => !x.1) && (backToKw cp (keywordEach [] env)).all (fun x => x.1.isSome) && decide ([e].length + ([] : List Keyword).length + (if ([] : List Keyword).isEmpty then 0 else 1) < 30)) = true)
    (hline : (ap.endLine == cp.line) = true) (he : ∀ env : Env, starEach [e] env = (false, eval e env) :: starEach [] env)
    (hi : ∀ env : Env, env.scope = sc → interactive env = false) :
    S1 prog w hb n sc (.Expr (.Call (.Attribute (.Name (Str.ofString x) np) (Str.ofString y) ap) [e] [] cp) pos) (mMeth C Va x m1 m fun ρ z => if isNone z = true then some (.next ρ) else none) := by
  intro A Hz env s₀ X C' ρ O s r Q E hs hA I hm hQ
  refine wpAny_Expr (meth_core M h1 hv hk hbase hfew hline he hs hA I hm fun u z ρ' O' s' hr I' t ru _ _ => ?_) (hi env hs)
  split at hr
  · rename_i hz
    (have e := si hr; subst e; clear hr)
    have hu : u = .none := by
      cases z with
      | none => exact ru.none_inv
      | _ => cases hz
    subst hu
    exact hQ O' s' I' t
  · exact no hr
theorem S1.methA {C Va : Addr} {x y p0 p1 v : String} {e : Expr} {np ap cp p pos : Pos} {k' : Nat} {m1 : Rho → Option (List V)} {m : List PyData → Option (PyData × PyData)} (M : MethR prog w hb k' C y p0 p1 m) (h1 : Evs prog w hb n sc [e] m1) (hv : isVar sc x = true) (hv2 : isVar sc v = true) (hk : k' ≤ n)
    (hbase : ∀ env : Env, attributeBase (.Name (Str.ofString x) np) (Str.ofString y) env (eval (.Name (Str.ofString x) np) env) = eval (.Name (Str.ofString x) np) env)
    (hfew : ∀ env : Env, ((backTo cp (starEach [e] env)).all (fun x => !x.1) && (backToKw cp (keywordEach [] env)).all (fun x => x.1.isSome) && decide ([e].length + ([] : List Keyword).length + (if ([] : List Keyword).isEmpty then 0 else 1) < 30)) = true)
    (hline : (ap.endLine == cp.line) = true) (he : ∀ env : Env, starEach [e] env = (false, eval e env) :: starEach [] env)
    (hsw : ∀ env : Env, env.scope = sc → swapsWith (.Call (.Attribute (.Name (Str.ofString x) np) (Str.ofString y) ap) [e] [] cp) (some (.Name (Str.ofString v) p)) pos.line env = pure false) :
    S1 prog w hb n sc (.Assign [.Name (Str.ofString v) p] (.Call (.Attribute (.Name (Str.ofString x) np) (Str.ofString y) ap) [e] [] cp) pos) (mMeth C Va x m1 m fun ρ z => some (.next (ρ.set v (.val ⟨z, .d⟩)))) := by
  intro A Hz env s₀ X C' ρ O s r Q E hs hA I hm hQ
  refine wpAny_Assign_Name (meth_core M h1 hv hk hbase hfew hline he hs hA I hm fun u z ρ' O' s' hr I' t ru cu hf => ?_) (hsw env hs)
  (have e := si hr; subst e; clear hr)
  exact I'.store (v := .val ⟨z, .d⟩) (by rw [hs]; exact hv2) ⟨.inl rfl, [], ru, cu, FlOk.nil⟩ fun s'' I'' t' => hQ O' s'' I'' (t.trans t')
noncomputable def isKey (k : Str) : PyData → Bool
  | .str x => decide (x = k)
  | _ => false
noncomputable def popD (k : Str) (kvs : List (PyData × PyData)) : List (PyData × PyData) := kvs.filter fun p => !isKey k p.1
noncomputable def isIntD : PyData → Bool
  | .int _ => true
  | _ => false
theorem popD_map (k : Str) : ∀ ys : List (Str × PyData), popD k (ys.map fun p => (.str p.1, p.2)) = ((ys.filter fun p => decide (p.1 ≠ k)).map fun p => (.str p.1, p.2))
  | [] => rfl
  | p :: ys => by
    have ih := popD_map k ys
    unfold popD at ih ⊢
    by_cases h : p.1 = k
    · rw [List.map_cons, List.filter_cons_of_neg (by simp [isKey, h]), List.filter_cons_of_neg (by simp [h]), ih]
    · rw [List.map_cons, List.filter_cons_of_pos (by simp [isKey, h]), List.filter_cons_of_pos (by simp [h]), List.map_cons, ih]
theorem RDs.without {h : Heap} {k : Str} : ∀ {ks : List (Str × Value)} {ys : List (Str × PyData)} {bs : List Addr}, ks.map (·.1) = ys.map (·.1) → RDs prog w Hz h (ks.map (·.2)) (ys.map (·.2)) bs →
    ∃ bs', RDs prog w Hz h ((PySem.without ks k).map (·.2)) ((ys.filter fun p => decide (p.1 ≠ k)).map (·.2)) bs' ∧ bs'.Sublist bs ∧ (PySem.without ks k).map (·.1) = (ys.filter fun p => decide (p.1 ≠ k)).map (·.1)
  | [], [], bs, _, r => by cases r; exact ⟨[], .nil, List.Sublist.refl _, rfl⟩
  | [], _ :: _, _, e, _ => by simp at e
  | _ :: _, [], _, e, _ => by simp at e
  | p :: ks, q :: ys, bs, e, r => by
    obtain ⟨e0, e1⟩ := List.cons.inj e
    dsimp only at e0
    cases r with
    | cons r1 r2 =>
      obtain ⟨bs', g1, g2, g3⟩ := RDs.without (k := k) e1 r2
      unfold PySem.without at g1 g3 ⊢
      by_cases hk : p.1 = k
      · rw [List.filter_cons_of_neg (by simp [hk]), List.filter_cons_of_neg (by rw [← e0]; simp [hk])]
        exact ⟨bs', g1, g2.trans (List.sublist_append_right _ _), g3⟩
      · rw [List.filter_cons_of_pos (by simp [hk]), List.filter_cons_of_pos (by rw [← e0]; simp [hk])]
        exact ⟨_ ++ bs', .cons r1 g1, (List.Sublist.refl _).append g2, by rw [List.map_cons, List.map_cons, g3, e0]⟩
theorem wf_popD {k : Str} {kvs : List (PyData × PyData)} (h : wf (.dict kvs) = true) : wf (.dict (popD k kvs)) = true := by
  simp only [wf, Bool.and_eq_true, decide_eq_true_eq] at *
  exact ⟨Nat.le_trans (List.length_filter_le _ _) h.1, wfk_mem.mpr fun p hp => wfk_mem.mp h.2 p (List.mem_filter.mp hp).1⟩
noncomputable def mPop (x : String) (mp : Rho → PyData → Option (PyData × (PyData → PyData))) (m : Rho → Option V) : Rho → Option Out := fun ρ => (treeOf ρ x).bind fun d => (mp ρ d.2).bind fun q => (dictOfD q.1).bind fun kvs => (m ρ).bind fun k => (keyOf k.x).bind fun key => (atKey key kvs).bind fun z => if isIntD z = true then some (.next (ρ.set x (.own (.tree d.1 (q.2 (.dict (popD key kvs))))))) else none
theorem S1.pPop {x : String} {pe e : Expr} {ap cp pos : Pos} {mp : Rho → PyData → Option (PyData × (PyData → PyData))} {m : Rho → Option V} (hp : Pa prog w hb n sc x pe mp) (h : Ev prog w hb n sc e m) (he : ∀ env, starEach [e] env = [(false, eval e env)]) (hl : (ap.endLine == cp.line) = true)
    (hbase : ∀ env : Env, attributeBase pe (Str.ofString "pop") env (eval pe env) = eval pe env) (hi : ∀ env : Env, env.scope = sc → interactive env = false) :
    S1 prog w hb n sc (.Expr (.Call (.Attribute pe (Str.ofString "pop") ap) [e] [] cp) pos) (mPop x mp m) := by
  intro A Hz env s₀ X C ρ O s r Q E hs hA I
  refine bindI fun d hd hm1 hQ => ?_
  obtain ⟨⟨y, up⟩, hy, hm2⟩ := bindE hm1
  obtain ⟨kvs, hkv, hm3⟩ := bindE hm2
  obtain ⟨⟨kx, kf⟩, hk, hm4⟩ := bindE hm3
  obtain ⟨key, hkey, hm5⟩ := bindE hm4
  obtain ⟨z, hz, hm6⟩ := bindE hm5
  clear hm1 hm2 hm3 hm4 hm5
  dsimp only at hkv hkey
  obtain ⟨rfl, hpk⟩ := dictOfD_some hkv
  obtain rfl := keyOf_some hkey
  have hx := treeOf_some hd
  split at hm6
  · rename_i hint
    cases hm6
    refine wpAny_Expr (wpAny_Call_method (hbase env) (by rw [he]; rfl) hl F.plainAttrs_dict F.slot_dict_pop F.type_dict_pop (hp hs hA I hx hy fun ad as v b s₁ k₁ hO nd r H => ?_)) (hi env hs)
    induction H.node.dictI hpk with | mk a ks ys bs b1 b2 b3 b4 => ?_
    refine ⟨b1.typeIs, fun a' ea => by cases ea; exact b1.mapOf.noDict _ rfl, ?_⟩
    rw [he]
    show wpAny _ _ (callWith cp (.builtin "dict.pop") [.ref a] [(false, eval e env)] []) _ _ _
    refine callWith_builtin rfl (evalArgs_plain (spliced_cons (h hs hA (I.grow k₁).toInF hk fun u s₂ k₂ r₂ => spliced_nil ?_)))
    obtain ⟨_, rk, _, _⟩ := r₂
    have H := rk.strI; clear rk; induction H with | mk t => ?_
    have g := keeps_grow k₂
    have H := H.grow g
    have r := r.grow g
    have b1 := b1.keep g
    have b4 := b4.grow g
    have kt := keeps_trans k₁ k₂
    obtain ⟨vv, ds, e1, e2, _⟩ := (key_get (k := key) b3 b4).1 z hz
    have hlen : ks.length = ys.length := by simpa using congrArg List.length b3
    have hsz : ks.length ≤ sizeLine := by
      have c := H.wfn
      simp only [wf, Bool.and_eq_true, decide_eq_true_eq] at c
      have := c.1
      rw [List.length_map] at this
      omega
    have hint' : ∃ i t', vv = .int i t' := by
      cases z with
      | int i => obtain ⟨t', e⟩ := e2.int_inv; exact ⟨i, t', e⟩
      | _ => cases hint
    refine call_meetsIn PySem.F.slot_dict_pop b1.typeIs PySem.F.entry_dict_pop (PySem.F.args_dict_pop_2 _ _) (meets_dict_pop_there (strKind prog w) a (strKey _ _) [] (.inl rfl) rfl) ⟨ks, vv, b1, hsz, e1, fun h' hmm hs' => ?_⟩
    obtain ⟨i, t', rfl⟩ := hint'
    have hall : ∀ c o, s₂.heap.get? c = some o → c ≠ a → h'.get? c = some o := fun c o q hc => (hs'.2 c hc).trans q
    have nda := H.nodup nd
    have haT : ∃ o, s₂.heap.get? a = some o ∧ ¬ Tup o := nontup_both.1 H.node a (.head _)
    have kb := kept_below nda hall haT
    obtain ⟨bs', g1, g2, g3⟩ := (kept_both.2 b4 kb).without (k := key) b3
    have hrd : RD prog w Hz h' (.ref a) (.dict (popD key (ys.map fun p => (.str p.1, p.2)))) (a :: bs') := by
      rw [popD_map]
      exact RD.dict hmm b2 g3 g1
    obtain ⟨O', I', T'⟩ := I.put kt (s₂.toks + 1) hx hO nd r H hall hrd (fun c hc => .inl (g2.subset hc)) ((List.nodup_cons.mp nda).2.sublist g2) (wf_popD H.wfn)
    obtain ⟨h1, t1, rfl, _⟩ := kt
    exact hQ O' _ I' T'
  · exact no hm6
noncomputable def mthOf (p : Program) (i j : Nat) : Option Stmt := match p.main.body[i]? with
  | some (.ClassDef _ _ _ b _ _ _ _ _ _ _) => b[j]?
  | _ => none
noncomputable def mthB (p : Program) (i j : Nat) : List Stmt := match mthOf p i j with
  | some (.FunctionDef _ _ b _ _ _ _ _ _ _) => b
  | _ => []
noncomputable def mthS (p : Program) (i j : Nat) : Scope := match mthOf p i j with
  | some (.FunctionDef _ _ _ _ _ _ s _ _ _) => s
  | _ => default
noncomputable def MethAt (hb : Heap) (C : Addr) (y : String) (sc : Scope) (ps : List String) (body : List Stmt) : Prop :=
  ∃ mC f fo fd r, Cls storeNames hb C mC ∧ mC (Str.ofString y) = some (.ref f) ∧ hb.get? f = some fo ∧ fo.cls = .type "function" ∧ fo.data = .func fd ∧ typeLookup (.type "object") (Str.ofString y) = pure r ∧ DefOk hb f sc ps body
theorem MethP.of {C : Addr} {y : String} {ps : List String} {body : List Stmt} {m : Rho → Option Out} (D : MethAt hb C y sc ps body) (h : St prog w hb n sc body m) (spec : List PyData → Option PyData) (hm : ∀ xs z, spec xs = some z → fnD ps m xs = some z) (hown : Str.ofString y ∉ storeNames) : MethP prog w hb (n + 1) C y spec := by
  obtain ⟨mC, f, fo, fd, r, h1, h2, h3, h4, h5, h6, h7⟩ := D
  refine ⟨⟨mC, f, fo, fd, r, h1, h2, h3, h4, h5, h6, ?_⟩, hown⟩
  intro A Hz s us xs as z Q E hA b rd hw hz hQ
  exact Fn.def h7 h hA b rd hw (hm xs z hz) hQ
theorem MethR.of {C : Addr} {y p0 p1 : String} {body : List Stmt} {m : Rho → Option Out} (D : MethAt hb C y sc [p0, p1] body) (h : St prog w hb n sc body m) (spec : List PyData → Option (PyData × PyData)) (hm : ∀ a xs r, spec xs = some r → procR [p0, p1] p0 m a xs = some r) (hne : p1 ≠ p0) (hown : Str.ofString y ∉ storeNames) :
    MethR prog w hb (n + 1) C y p0 p1 spec := by
  obtain ⟨mC, f, fo, fd, r, h1, h2, h3, h4, h5, h6, h7⟩ := D
  exact ⟨⟨mC, f, fo, fd, r, h1, h2, h3, h4, h5, h6, FnR.def h7 (.head _) h hm⟩, hown, hne⟩
end

section
open Classical in
noncomputable def procRS (ps : List String) (px : String) (m : Rho → Option Out) (xs : List PyData) : Option (PyData × PyData) := if ∀ a, procR ps px m a xs = procR ps px m 0 xs then procR ps px m 0 xs else none
theorem procRS_all {ps : List String} {px : String} {m : Rho → Option Out} {xs : List PyData} {r : PyData × PyData} (h : procRS ps px m xs = some r) (a : Addr) : procR ps px m a xs = some r := by
  unfold procRS at h
  split at h
  · rename_i hq; rw [hq a]; exact h
  · exact no h
theorem procRS_of {ps : List String} {px : String} {m : Rho → Option Out} {xs : List PyData} {r : PyData × PyData} (h : ∀ a, procR ps px m a xs = some r) : procRS ps px m xs = some r := by
  unfold procRS
  rw [if_pos fun a => (h a).trans (h 0).symm]; exact h 0
theorem procR_ret {ps : List String} {px : String} {mm : Rho → Option Out} {a : Addr} {args : List PyData} {d d' z : PyData} (hl : args.length = ps.length) (hd : (ps.zip args).lookup px = some d) (h : ∃ ρ', run mm ((rho0 ps args).set px (.own (.tree (some a) d))) = some (.retT z ρ') ∧ treeOf ρ' px = some (some a, d')) :
    procR ps px mm a args = some (z, d') := by
  obtain ⟨ρ', h1, h2⟩ := h
  unfold procR
  rw [if_pos hl, hd, Option.bind_some, show mm _ = _ from h1, Option.bind_some, endR, h2, Option.bind_some, if_pos rfl]
theorem procR_end {ps : List String} {px : String} {mm : Rho → Option Out} {a : Addr} {args : List PyData} {d d' : PyData} (hl : args.length = ps.length) (hd : (ps.zip args).lookup px = some d) (h : ∃ ρ', run mm ((rho0 ps args).set px (.own (.tree (some a) d))) = some (.next ρ') ∧ treeOf ρ' px = some (some a, d')) :
    procR ps px mm a args = some (.none, d') := by
  obtain ⟨ρ', h1, h2⟩ := h
  unfold procR
  rw [if_pos hl, hd, Option.bind_some, show mm _ = _ from h1, Option.bind_some, endR, h2, Option.bind_some, if_pos rfl]
theorem seqRetT {m m' : Rho → Option Out} {ρ : Rho} {P : PyData → Rho → Prop} (h : ∃ z ρ', run m ρ = some (.retT z ρ') ∧ P z ρ') : ∃ z ρ', run (fun ρ => (m ρ).bind (thenB m')) ρ = some (.retT z ρ') ∧ P z ρ' := by
  obtain ⟨z, ρ', h1, h2⟩ := h
  refine ⟨z, ρ', ?_, h2⟩
  show (m ρ).bind (thenB m') = _
  rw [show m ρ = _ from h1]; rfl
theorem seqOnT {m m' : Rho → Option Out} {ρ ρ₁ : Rho} {P : PyData → Rho → Prop} (h : run m ρ = some (.next ρ₁)) (h' : ∃ z ρ', run m' ρ₁ = some (.retT z ρ') ∧ P z ρ') : ∃ z ρ', run (fun ρ => (m ρ).bind (thenB m')) ρ = some (.retT z ρ') ∧ P z ρ' := by
  obtain ⟨z, ρ', h1, h2⟩ := h'
  refine ⟨z, ρ', ?_, h2⟩
  show (m ρ).bind (thenB m') = _
  rw [show m ρ = _ from h]; exact h1
theorem procR_of {ps : List String} {px : String} {mm : Rho → Option Out} {a : Addr} {args : List PyData} {d d' z : PyData} (hl : args.length = ps.length) (hd : (ps.zip args).lookup px = some d) (h : ∃ z' ρ', run mm ((rho0 ps args).set px (.own (.tree (some a) d))) = some (.retT z' ρ') ∧ z' = z ∧ treeOf ρ' px = some (some a, d')) :
    procR ps px mm a args = some (z, d') := by
  obtain ⟨z', ρ', h1, rfl, h2⟩ := h
  exact procR_ret hl hd ⟨ρ', h1, h2⟩
theorem mMeth_run {C Va p : Addr} {x : String} {m1 : Rho → Option (List V)} {m : List PyData → Option (PyData × PyData)} {k : Rho → PyData → Option Out} {ρ : Rho} {ro : Option Addr} {f f' : StF} {v : V} {z : PyData} {r : Out} (h1 : treeOf ρ x = some (ro, storeD C Va p f)) (h2 : m1 ρ = some [v]) (hv : flat v.x = true)
    (hm : m [storeD C Va p f, v.x] = some (z, storeD C Va p f')) (hz : flat z = true) (hk : k (ρ.set x (.own (.tree ro (storeD C Va p f')))) z = some r) : mMeth C Va x m1 m k ρ = some r := by
  unfold mMeth
  rw [h1, Option.bind_some, h2, Option.bind_some]
  show (if storeLike C Va (storeD C Va p f) = true ∧ flat v.x = true then _ else _) = _
  rw [if_pos ⟨storeLike_store C Va p f, hv⟩]
  show (m [storeD C Va p f, v.x]).bind _ = _
  rw [hm, Option.bind_some, if_pos ⟨rfl, hz⟩]
  exact hk
end

section
variable {prog : Program} {w : World} {Hz : List Addr} {hb : Heap} {n : Nat} {sc : Scope}
noncomputable def intsL : List PyData → Option (List Int)
  | [] => some []
  | .int i :: r => (intsL r).map (i :: ·)
  | _ :: _ => none
theorem intsL_some : ∀ {xs : List PyData} {ns : List Int}, intsL xs = some ns → xs = ns.map .int
  | [], ns, h => by (have e := si h; subst e; clear h); rfl
  | x :: xs, ns, h => by
    cases x with
    | int i =>
      obtain ⟨r, h1, h2⟩ := Option.map_eq_some_iff.mp h
      rw [← h2, intsL_some h1]; rfl
    | _ => exact no h
theorem intsL_map : ∀ ns : List Int, intsL (ns.map .int) = some ns
  | [] => rfl
  | i :: ns => by show (intsL (ns.map .int)).map (i :: ·) = _; rw [intsL_map ns]; rfl
theorem RDs.intsAre {h : Heap} : ∀ {ns : List Int} {vs : List Value} {as : List Addr}, RDs prog w Hz h vs (ns.map .int) as → PyProof.Rows.IntsAre vs ns
  | [], vs, as, r => by cases r; exact .nil
  | i :: ns, vs, as, r => by
    cases r with
    | cons a b => have H := a.intI; clear a; induction H with | mk t => ?_; exact .cons i t b.intsAre
theorem ints_rds {h : Heap} {vs : List Value} {ns : List Int} (x : PyProof.Rows.IntsAre vs ns) : RDs prog w Hz h vs (ns.map .int) [] := by
  induction x with
  | nil => exact .nil
  | cons i t _ ih => exact .cons (as := []) (.int i t) ih
theorem sorted_uniq : ∀ {l m : List Int}, l.Perm m → l.Pairwise (· ≤ ·) → m.Pairwise (· ≤ ·) → l = m
  | [], m, p, _, _ => (List.nil_perm.mp p).symm
  | a :: l, [], p, _, _ => by simp at p
  | a :: l, b :: m, p, h1, h2 => by
    rw [List.pairwise_cons] at h1 h2
    have e : a = b := by
      have x : a ∈ b :: m := p.subset (.head _)
      have y : b ∈ a :: l := p.symm.subset (.head _)
      rcases List.mem_cons.mp x with x | x
      · exact x
      · rcases List.mem_cons.mp y with y | y
        · exact y.symm
        · have q1 := h2.1 a x
          have q2 := h1.1 b y
          lia
    subst e
    rw [sorted_uniq ((List.perm_cons a).mp p) h1.2 h2.2]
noncomputable def sortI (ns : List Int) : List Int := ns.mergeSort fun a b => decide (a ≤ b)
theorem sortI_perm (ns : List Int) : (sortI ns).Perm ns := List.mergeSort_perm ns _
theorem sortI_sorted (ns : List Int) : (sortI ns).Pairwise (· ≤ ·) := by
  have := List.pairwise_mergeSort (le := fun a b : Int => decide (a ≤ b)) (by intro a b c; simp; lia) (by intro a b; simp; lia) ns
  exact this.imp fun h => by simpa using h
noncomputable def sortR (v : V) : Option V := (listOfD v.x).bind fun xs => (intsL xs).bind fun ns => if ns.length < 64 then some ⟨.list ((sortI ns).reverse.map .int), .d⟩ else none
theorem Ev.sortedRev {e : Expr} {k : Nat} {np bp kp pos : Pos} {m : Rho → Option V} (hg : GName hb "sorted" (.builtin "sorted")) (h : Ev prog w hb n sc e m) (hx : isGlob sc "sorted" = true) (he : ∀ env : Env, starEach [e] env = [(false, eval e env)]) :
    Ev prog w hb n sc (.Call (.Name (Str.ofString "sorted") np) [e] [⟨some (Str.ofString "reverse"), .Constant (.bool true) k bp, kp⟩] pos) (fun ρ => (m ρ).bind sortR) := by
  intro A Hz env s₀ X C ρ O s v Q E hs hA I
  refine bindI fun a ha => bindI fun xs h1 => bindI fun ns h2 => ifI fun h64 hm hQ => ?_
  · (have e := si hm; subst e; clear hm)
    show wpAny _ _ (eval (.Name (Str.ofString "sorted") np) env >>= fun f => callWith pos f [] (backTo pos (starEach [e] env)) (backToKw pos (keywordEach [⟨some (Str.ofString "reverse"), .Constant (.bool true) k bp, kp⟩] env))) _ _ s
    refine wpAny_bind (eval_glob I (by rw [hs]; exact hx) hg ?_)
    refine PyProof.Rows.callWith_kw (e := e) (rest := []) ?_ (by rw [he]; rfl) (by rw [he]; rfl)
    rw [he]
    refine spliced_cons (h hs hA I ha fun u s₁ k₁ r₁ => spliced_nil (PyProof.Rows.kws_cons (wpAny_Constant_bool (PyProof.Rows.kws_nil ?_))))
    obtain ⟨as, ra, ca, oa⟩ := r₁
    rw [listOfD_some h1] at ra ca
    obtain rfl := intsL_some h2
    have H := ra.listI; clear ra; induction H with | mk d us mm cs a1 a2 => ?_
    have hI := a2.intsAre
    have hl : us.length = ns.length := by have := a2.length; simpa using this
    refine PyProof.Rows.sorted_ints_rev (b := true) ⟨_, a1, rfl, _, rfl⟩ hI (by lia) fun out ns' b1 b2 b3 => ?_
    have b3' : ns'.reverse.Pairwise (· ≤ ·) := by
      rw [List.pairwise_reverse]
      exact b3
    have e1 : ns'.reverse = sortI ns := sorted_uniq (((List.reverse_perm ns').trans b2).trans (sortI_perm ns).symm) b3' (sortI_sorted ns)
    obtain rfl : ns' = (sortI ns).reverse := by rw [← e1, List.reverse_reverse]
    obtain ⟨ee, hee⟩ := PyProof.Rows.sortedAll_at s₁.heap us out
    have kk : Keeps s₁ { s₁ with heap := PyProof.Rows.sortedAll s₁.heap us out } := ⟨_, s₁.toks, rfl, fun b o q => PyProof.Rows.sortedAll_old q⟩
    refine hQ _ _ (keeps_trans k₁ kk) ⟨[s₁.heap.objs.size + 1], .list (vs := out.toList) (n := ee) (by simpa using hee) (ints_rds b1), ?_, ?_⟩
    · rw [wf_list]
      refine ⟨Nat.le_trans ?_ (by decide : 64 ≤ sizeLine), (wfs_iff _).mpr fun x hx => ?_⟩
      · have := (sortI_perm ns).length_eq
        simp; lia
      · obtain ⟨i, _, rfl⟩ := List.mem_map.mp hx; rfl
    · intro c hc
      rw [List.mem_singleton.mp hc]
      exact (I.grow k₁).fresh (get?_size_none _ (Nat.le_succ _))
noncomputable def rawHas (y : Str) (k : List PyData) : Bool := k.any fun t => decide (((tupD t).bind fun xs => xs[0]?.bind keyOf) = some y)
noncomputable def dctD : PyData → Option (List (PyData × PyData))
  | .dict kvs => some kvs
  | _ => none
noncomputable def instP (C : Addr) (x : PyData) : Option (List PyData × List (PyData × PyData)) := (oneD x).bind fun kv => (listOfD kv.1).bind fun ks => (dctD kv.2).bind fun fs => if (ks[0]?.bind intOf) = some (C : Int) then some (ks.drop 1, fs) else none
theorem instP_rec (C : Addr) (rs : List (Str × Addr)) (fs : List (Str × PyData)) : instP C (recD C rs fs) = some (rs.map (fun q => .tuple [.str q.1, .int q.2]), fs.map fun p => (.str p.1, p.2)) := by
  show (if some (C : Int) = some (C : Int) then some (rs.map (fun q => PyData.tuple [.str q.1, .int q.2]), fs.map fun p => ((.str p.1, p.2) : PyData × PyData)) else none) = _
  rw [if_pos rfl]
noncomputable def addF (C : Addr) (y : Str) (z d : PyData) : Option PyData := (instP C d).bind fun q => if rawHas y q.1 = false ∧ hasKey y q.2 = false ∧ q.1.length + q.2.length ≤ 18 then some (.dict [(.list (.int C :: q.1), .dict (q.2 ++ [(.str y, z)]))]) else none
section
variable (prog w Hz)
inductive InstJ (h : Heap) (C : Addr) (u : Value) (x : PyData) (q : List PyData × List (PyData × PyData)) (as : List Addr) : Prop
  | mk (a dx : Addr) (rs : List (Str × Addr)) (gs : List (Str × PyData)) (vs : List Value) (m : Str → Option Value) (bs : List Addr) (h1 : u = .ref a) (h2 : x = recD C rs gs) (h3 : as = a :: dx :: bs) (h4 : q = (rs.map (fun q => .tuple [.str q.1, .int q.2]), gs.map fun p => (.str p.1, p.2)))
      (i : IAt h a dx C m) (h5 : ∀ q ∈ rs, m q.1 = some (.ref q.2)) (h6 : gs.map (fun p => m p.1) = vs.map some) (h7 : Within m (rs.map (·.1) ++ gs.map (·.1))) (r : RDs prog w Hz h vs (gs.map (·.2)) bs) : InstJ h C u x q as
end
theorem RD.inst_inv {h : Heap} {u : Value} {C : Addr} {x : PyData} {q : List PyData × List (PyData × PyData)} {as : List Addr} (r : RD prog w Hz h u x as) (e : instP C x = some q) :
    InstJ prog w Hz h C u x q as := by
  cases r with
  | @inst a dx C' rs gs vs m bs i q' e' n r =>
    replace e : (if some (C' : Int) = some (C : Int) then some (rs.map (fun q => PyData.tuple [.str q.1, .int q.2]), gs.map fun p => ((.str p.1, p.2) : PyData × PyData)) else Option.none) = some q := e
    by_cases hv : some (C' : Int) = some (C : Int)
    · rw [if_pos hv] at e
      obtain rfl := Option.some.inj e
      obtain rfl : C' = C := Int.ofNat.inj (Option.some.inj hv)
      exact ⟨a, dx, rs, gs, vs, m, bs, rfl, rfl, rfl, rfl, i, q', e', n, r⟩
    · rw [if_neg hv] at e; exact no e
  | dict =>
    obtain ⟨kv, h1, h2⟩ := bindE e
    obtain ⟨k, hk⟩ := oneD_dict h1
    rw [hk] at h2; exact no h2
  | _ => exact no e
theorem rec_inj {C : Addr} {rs rs' : List (Str × Addr)} {gs gs' : List (Str × PyData)} (h : recD C rs gs = recD C rs' gs') : rs = rs' ∧ gs = gs' := by
  have e := congrArg (instP C) h
  rw [instP_rec, instP_rec] at e
  injection e with e
  injection e with e1 e2
  refine ⟨(List.map_inj_right fun x y q => ?_).mp e1, (List.map_inj_right fun x y q => ?_).mp e2⟩
  · injection q with q
    injection q with q1 q2
    injection q1 with q1
    injection q2 with q2 _
    injection q2 with q2
    exact Prod.ext q1 (Int.ofNat.inj q2)
  · injection q with q1 q2
    injection q1 with q1
    exact Prod.ext q1 q2
theorem rawHas_not {y : Str} : ∀ {rs : List (Str × Addr)}, rawHas y (rs.map fun q => .tuple [.str q.1, .int q.2]) = false → ∀ q ∈ rs, q.1 ≠ y
  | [], _, q, hq => nomatch hq
  | r :: rs, h, q, hq => by
    rw [List.map_cons, rawHas, List.any_cons, Bool.or_eq_false_iff] at h
    rcases List.mem_cons.mp hq with rfl | hq
    · exact fun e => of_decide_eq_false h.1 (congrArg some e)
    · exact rawHas_not h.2 q hq
theorem hasKey_not {y : Str} : ∀ {gs : List (Str × PyData)}, hasKey y (gs.map fun p => (.str p.1, p.2)) = false → ∀ q ∈ gs, q.1 ≠ y
  | [], _, q, hq => nomatch hq
  | r :: gs, h, q, hq => by
    rw [List.map_cons, hasKey, Bool.or_eq_false_iff] at h
    rcases List.mem_cons.mp hq with rfl | hq
    · simpa using h.1
    · exact hasKey_not h.2 q hq
section
variable {A : Around} {E : Value → Shared → Prop} {s : Shared} {X : List Addr} {env : Env} {C' : List Addr} {ρ : Rho} {O : List (String × List Addr)} {s₀ : Shared}
theorem InS.newAttr {nl : List Str} {C : Addr} {mC : Str → Option Value} {x y : String} {np : Pos} {ro : Option Addr} {d d' : PyData} {u : Value} {t : Shared} {Q : Unit → Shared → Prop} {bs : List Addr} (KC : Cls nl hb C mC) (hy : Str.ofString y ∈ nl) (I : InS prog w Hz hb s₀ X env C' ρ O s) (kt : Keeps s t) (hv : isVar env.scope x = true)
    (hx : ρ x = some (.own (.tree ro d))) (hfr : ∀ b ∈ bs, s.heap.get? b = none) (hbn : bs.Nodup) (hwf : wf d' = true) (hno : isNode d' = true) (hlen : ∀ a as, RD prog w Hz s.heap (.ref a) d as → ∃ dx m ns bs₀, as = a :: dx :: bs₀ ∧ IAt s.heap a dx C m ∧ Within m ns ∧ ns.length ≤ 20 ∧
      ∀ h', IAt h' a dx C (fun z => if z = Str.ofString y then some u else m z) → (∀ c o, c ≠ a → c ≠ dx → t.heap.get? c = some o → h'.get? c = some o) → (a :: dx :: bs₀).Nodup → (∀ b ∈ bs, b ≠ a ∧ b ≠ dx) → RD prog w Hz h' (.ref a) d' (a :: dx :: (bs₀ ++ bs)))
    (hQ : ∀ O' s', InS prog w Hz hb s₀ X env C' (ρ.set x (.own (.tree ro d'))) O' s' → Step s.heap s'.heap (WW env C' O) (WW env C' O') → Q () s') :
    wpAny (model prog w) A (eval (.Name (Str.ofString x) np) env) (fun ov s₂ => wpAny (model prog w) A (setAttr ov (Str.ofString y) u) Q E s₂) E t := by
  have It := I.grow kt
  have gt := keeps_grow kt
  refine It.ownedT hv hx fun ad as hO rt nd ct cn => ?_
  -- the tree as it stood at s
  have hrs : RD prog w Hz s.heap (.ref ad) d as := by
    have fin : ∀ u', RepVV prog w Hz s₀.heap (WW env C' O) O s.heap x u' (.own (.tree ro d)) → ∃ a', u' = .ref a' ∧ RD prog w Hz s.heap (.ref a') d as := by
      rintro u' ⟨sp, e, r⟩
      rw [hO] at e; (have e := si e; subst e; clear e)
      cases r with
      | tree q1 q2 q3 q4 q5 => exact ⟨_, rfl, q1⟩
    have key : ∃ a', RD prog w Hz s.heap (.ref a') d as := by
      rcases isVar_kinds hv with q | q
      · obtain ⟨mm, hns, hm⟩ := I.ns
        obtain ⟨u', _, r⟩ := hm x _ hx q
        obtain ⟨a', _, r⟩ := fin u' r; exact ⟨a', r⟩
      · obtain ⟨c, u', _, _, r⟩ := I.cell x _ hx q
        obtain ⟨a', _, r⟩ := fin u' r; exact ⟨a', r⟩
    obtain ⟨a', r⟩ := key
    obtain ⟨_, z1⟩ := node_head r cn
    obtain ⟨_, z2⟩ := node_head rt cn
    rw [z1] at z2
    rw [← (List.cons.inj z2).1]; exact r
  obtain ⟨dx, m, ns, bs₀, rfl, i, hw, hl, hfin⟩ := hlen ad as hrs
  have i₂ : IAt t.heap ad dx C m := i.kept (fun o e => gt _ _ e) (fun o e => gt _ _ e)
  have hfa : hb.get? ad = none := (I.wfresh ad (own_sub hO (.head _))).1
  have hal := nontup_both.1 hrs
  have hbne : ∀ b ∈ bs, b ∉ ad :: dx :: bs₀ := fun b hb' q => by
    obtain ⟨o, e, _⟩ := hal b q
    rw [hfr b hb'] at e; exact no e
  obtain ⟨h2, tk2, rfl, _⟩ := kt
  refine attr_set (s := _) KC It.base.grow i₂ hy hw hl hfa fun h' tk i' keep => ?_
  have rd3 := hfin h' i' keep nd fun b hb' => ⟨fun q => hbne b hb' (q ▸ .head _), fun q => hbne b hb' (q ▸ .tail _ (.head _))⟩
  have al := nontup_both.1 rd3
  have hs3 : ∀ c o, s.heap.get? c = some o → c ∉ ad :: dx :: bs₀ → h'.get? c = some o := fun c o eo q => keep c o (fun e => q (by rw [e]; exact .head _)) (fun e => q (by rw [e]; exact .tail _ (.head _))) (gt c o eo)
  have hmem : ∀ c, c ∈ ad :: dx :: (bs₀ ++ bs) → c ∈ ad :: dx :: bs₀ ∨ s.heap.get? c = none := fun c hc => by
    rcases List.mem_append.mp (show c ∈ (ad :: dx :: bs₀) ++ bs from hc) with q | q
    · exact .inl q
    · exact .inr (hfr c q)
  have nd' : (ad :: dx :: (bs₀ ++ bs)).Nodup := by
    show ((ad :: dx :: bs₀) ++ bs).Nodup
    rw [List.nodup_append]
    exact ⟨nd, hbn, fun a ha b hb' e => hbne b hb' (e ▸ ha)⟩
  have I' := I.updTree (tk := tk) hx hO hs3 (fun c hc => (al c (by
    show c ∈ (ad :: dx :: bs₀) ++ bs
    exact List.mem_append_left _ hc)).imp fun _ q => q.1) (fun c hc => ⟨hmem c hc, al c hc⟩) nd' hwf hno (fun a' q => by
      obtain ⟨_, z1⟩ := node_head q cn
      rw [← (List.cons.inj z1).1]; exact rd3)
  exact hQ _ _ I' (tree_step hO hs3 fun c hc => hmem c hc)
end
noncomputable def mSetA (C : Addr) (x : String) (y : String) (m : Rho → Option PyData) : Rho → Option Out := fun ρ => (treeOf ρ x).bind fun d => (m ρ).bind fun z => (addF C (Str.ofString y) z d.2).map fun d' => .next (ρ.set x (.own (.tree d.1 d')))
theorem addF_inv {C : Addr} {y : Str} {z d d' : PyData} (h : addF C y z d = some d') : ∃ q, instP C d = some q ∧ rawHas y q.1 = false ∧ hasKey y q.2 = false ∧ q.1.length + q.2.length ≤ 18 ∧ d' = .dict [(.list (.int C :: q.1), .dict (q.2 ++ [(.str y, z)]))] := by
  obtain ⟨q, h1, h2⟩ := bindE h
  split at h2
  · rename_i hc
    exact ⟨q, h1, hc.1, hc.2.1, hc.2.2, (Option.some.inj h2).symm⟩
  · exact no h2
theorem wf_rec {C : Addr} {rs : List (Str × Addr)} {gs : List (Str × PyData)} : wf (recD C rs gs) = true ↔ ((rs.length + 1 ≤ sizeLine ∧ wfs (rs.map fun q => .tuple [.str q.1, .int q.2]) = true) ∧ gs.length ≤ sizeLine ∧ wfk (gs.map fun p => (.str p.1, p.2)) = true) := by
  have h1 : 1 ≤ sizeLine := by decide
  simp [recD, wf, wfk, wfs, h1]
theorem wf_add {C : Addr} {y : Str} {z : PyData} {rs : List (Str × Addr)} {gs : List (Str × PyData)} (cd : wf (recD C rs gs) = true) (cy : wf (.str y) = true) (cz : wf z = true) (hl : rs.length + gs.length ≤ 18) : wf (recD C rs (gs ++ [(y, z)])) = true := by
  rw [wf_rec] at cd ⊢
  refine ⟨cd.1, Nat.le_trans (by simp; lia) (by decide : 19 ≤ sizeLine), ?_⟩
  rw [List.map_append, wfk_mem]
  intro p hp
  rcases List.mem_append.mp hp with hp | hp
  · exact wfk_mem.mp cd.2.2 p hp
  · rw [List.mem_singleton.mp hp]
    exact ⟨cy, cz⟩
theorem S1.setAttr {nl : List Str} {C : Addr} {mC : Str → Option Value} {x y : String} {e : Expr} {np tp pos : Pos} {m : Rho → Option PyData} (KC : Cls nl hb C mC) (h : EvT prog w hb n sc e m) (hy : Str.ofString y ∈ nl) (hwy : wf (.str (Str.ofString y)) = true) (hv : isVar sc x = true)
    (hsw : ∀ env : Env, swapsWith e (some (.Attribute (.Name (Str.ofString x) np) (Str.ofString y) tp)) pos.line env = pure false) :
    S1 prog w hb n sc (.Assign [.Attribute (.Name (Str.ofString x) np) (Str.ofString y) tp] e pos) (mSetA C x y m) := by
  intro A Hz env s₀ X C' ρ O s r Q E hs hA I
  refine bindI fun z0 hd => bindI fun z hz hm hQ => ?_
  obtain ⟨ro, d⟩ := z0
  induction mapE hm with | mk d' hd' => ?_
  have hx := treeOf_some hd
  dsimp only at hx hd'
  refine plainObj_wpAny_Assign_Attribute (h hs hA I.toInF hz fun u bs s₁ k₁ ru nd cz fr => ?_) (hsw env)
  obtain ⟨q, hq, g1, g2, g3, rfl⟩ := addF_inv hd'
  have hrd : ∃ a as, RD prog w Hz s.heap (.ref a) d as ∧ wf d = true := by
    have fin : ∀ u', RepVV prog w Hz s₀.heap (WW env C' O) O s.heap x u' (.own (.tree ro d)) → ∃ a as, RD prog w Hz s.heap (.ref a) d as ∧ wf d = true := by
      rintro u' ⟨sp, e, r⟩
      cases r with
      | tree q1 q2 q3 q4 q5 => exact ⟨_, _, q1, q3⟩
    rcases isVar_kinds (show isVar env.scope x = true by rw [hs]; exact hv) with q | q
    · obtain ⟨mm, hns, hm⟩ := I.ns
      obtain ⟨u', _, r⟩ := hm x _ hx q
      exact fin u' r
    · obtain ⟨c, u', _, _, r⟩ := I.cell x _ hx q
      exact fin u' r
  obtain ⟨_, _, rt0, cd⟩ := hrd
  obtain ⟨_, _, rs, gs, _, _, _, _, rfl, _, rfl, _⟩ := rt0.inst_inv hq
  rw [show PyData.dict [(.list (.int C :: (rs.map fun q => .tuple [.str q.1, .int q.2])), .dict ((gs.map fun p => (.str p.1, p.2)) ++ [(.str (Str.ofString y), z)]))] = recD C rs (gs ++ [(Str.ofString y, z)]) by unfold recD; rw [List.map_append]; rfl] at hQ
  have g1' := rawHas_not g1
  have g2' := hasKey_not g2
  simp only [List.length_map] at g3
  refine I.newAttr (d' := recD C rs (gs ++ [(Str.ofString y, z)])) KC hy k₁ (by rw [hs]; exact hv) hx fr nd (wf_add cd hwy cz g3) rfl (fun a as rt => ?_) fun O' s' I' t => hQ O' s' I' t
  obtain ⟨a', dx, rs', gs', vs, mm, bs₀, e0, ex, rfl, _, i, q, e, nn, rr⟩ := rt.inst_inv (instP_rec C rs gs)
  cases e0
  obtain ⟨rfl, rfl⟩ := rec_inj ex
  refine ⟨dx, mm, _, bs₀, rfl, i, nn, by simp; lia, fun h' i' keep nd' hne => ?_⟩
  have hout : ∀ c ∈ bs₀, c ≠ a ∧ c ≠ dx := fun c hc => by
    simp only [List.nodup_cons, List.mem_cons, not_or] at nd'
    exact ⟨fun q => nd'.1.2 (q ▸ hc), fun q => nd'.2.1 (q ▸ hc)⟩
  have kp : ∀ {bs' : List Addr}, (∀ c ∈ bs', c ≠ a ∧ c ≠ dx) → KeptAt s₁.heap h' bs' := fun {bs'} hb' c o eo qq => by
    have i₁ : IAt s₁.heap a dx C mm := i.kept (fun o e => keeps_grow k₁ _ _ e) (fun o e => keeps_grow k₁ _ _ e)
    have ntup : ∀ c, c = a ∨ c = dx → ∃ o, s₁.heap.get? c = some o ∧ ¬ Tup o := fun c hc => i₁.alive c (by rcases hc with rfl | rfl <;> simp)
    refine keep c o ?_ ?_ eo
    · intro hc
      rcases qq with qq | qq
      · exact (hb' c qq).1 hc
      · obtain ⟨o', eo', nt⟩ := ntup c (.inl hc)
        rw [eo] at eo'; (have e := si eo'; subst e; clear eo'); exact nt qq
    · intro hc
      rcases qq with qq | qq
      · exact (hb' c qq).2 hc
      · obtain ⟨o', eo', nt⟩ := ntup c (.inr hc)
        rw [eo] at eo'; (have e := si eo'; subst e; clear eo'); exact nt qq
  have r1 := kept_both.2 (rr.grow (keeps_grow k₁)) (kp hout)
  have r2 := kept_both.1 ru (kp hne)
  have := RD.inst (prog := prog) (w := w) (Hz := Hz) (rs := rs) (fs := gs ++ [(Str.ofString y, z)]) (vs := vs ++ [u]) i' (fun q' hq' => by rw [if_neg (g1' q' hq')]; exact q q' hq') (by
    rw [List.map_append, List.map_append]
    congr 1
    · rw [← e]
      refine List.map_congr_left fun p hp => ?_
      rw [if_neg (g2' p hp)]
    · simp) (fun z' hz' => by
    by_cases ez : z' = Str.ofString y
    · subst ez; simp
    · rw [if_neg ez] at hz'
      have := nn z' hz'
      simp only [List.map_append, List.mem_append] at this ⊢
      rcases this with q | q
      · exact .inl q
      · exact .inr (.inl q)) (as := bs₀ ++ (bs ++ [])) (by
    rw [List.map_append]
    exact r1.append (.cons r2 .nil))
  rw [List.append_nil] at this
  exact this
theorem Room.under {A : Around} {n : Nat} {C : Addr} {us : List Value} (h : Room A (n + 1)) : Room (A.under (.builtin "type.__call__" ⟨.ref C :: us, []⟩)) n := by
  obtain ⟨l, hl⟩ := h.frames
  refine ⟨h.handled, ?_, ?_, ⟨l, ?_⟩⟩
  · have := h.depth
    show A.depth + 1 + n + 100 < _
    lia
  · have := h.units
    have hc : Code.cUnits (.builtin "type.__call__" ⟨.ref C :: us, []⟩) ≤ 8 := by
      show Code.cUnits (.builtin "type.__call__" _) ≤ 8
      exact Nat.le_of_ble_eq_true rfl
    show A.units + Code.cUnits (.builtin "type.__call__" ⟨.ref C :: us, []⟩) + 8 * n + 100 < _
    lia
  · clear h
    cases A
    cases hl
    rfl
theorem new_core {A : Around} {E : Value → Shared → Prop} {s : Shared} {nl : List Str} {C fI : Addr} {mC : Str → Option Value} {oI : Obj} {us : List Value} {Q : Value → Shared → Prop} (KC : Cls nl hb C mC) (hi : mC "__init__" = some (.ref fI)) (hfo : hb.get? fI = some oI) (hfc : oI.cls = .type "function") (g : Grow hb s.heap)
    (hq : ∀ h' x dx, Grow s.heap h' → s.heap.get? x = none → s.heap.get? dx = none → IAt h' x dx C (fun _ => none) →
      wpAny (model prog w) (A.under (.builtin "type.__call__" ⟨.ref C :: us, []⟩)) (call (.ref fI) (.ref x :: us)) (fun r s' => r = .none ∧ Q (.ref x) s') E { s with heap := h' }) :
    wpAny (model prog w) A (call (.ref C) us) Q E s := by
  obtain ⟨N, X⟩ := KC.here
  obtain ⟨hh, gg, d, t, os⟩ := s
  obtain ⟨nm, q, bs, sn, sub, col, dd, k0, k1, k2, k3, k5, hC⟩ := (X.keeps g).obj
  refine wpAny_call_obj_init PySem.F.objNew hC (X.keeps g).ns hi (g _ _ hfo) hfc fun h' x dx Mk => ?_
  refine hq h' x dx Mk.keeps Mk.newX Mk.newD ?_
  obtain ⟨ox, hx, hcx, hncx, hdx⟩ := Mk.inst
  have hdd := Mk.dict ox hx
  rcases hdx with ⟨hn0, _⟩ | ⟨d', hd', hne, hns⟩
  · rw [hn0] at hdd; exact no hdd
  · obtain rfl := Option.some.inj (hd'.symm.trans hdd)
    exact ⟨ox, hx, hcx, hncx, hdd, hne, hns⟩
theorem zip_rd {h : Heap} {y : String} {u : Value} {x : PyData} : ∀ {ps : List String} {us : List Value} {xs : List PyData} {as : List Addr}, RDs prog w Hz h us xs as → (ps.zip us).lookup y = some u → (ps.zip xs).lookup y = some x → ∃ bs, RD prog w Hz h u x bs ∧ ∀ c ∈ bs, c ∈ as
  | [], _, _, _, _, e, _ => by simp at e
  | p :: ps, [], _, _, _, e, _ => by simp at e
  | p :: ps, v :: us, [], _, _, _, e => by simp at e
  | p :: ps, v :: us, z :: xs, as, r, e1, e2 => by
    obtain ⟨bs, cs, rfl, r1, r2⟩ := r.cons_inv
    simp only [List.zip_cons_cons, List.lookup_cons] at e1 e2
    by_cases hy : y = p
    · subst hy
      simp only [beq_self_eq_true] at e1 e2
      (have e := si e1; subst e; clear e1); (have e := si e2; subst e; clear e2)
      exact ⟨bs, r1, fun c hc => List.mem_append_left _ hc⟩
    · rw [beq_eq_false_iff_ne.mpr hy] at e1 e2
      obtain ⟨ds, q1, q2⟩ := zip_rd r2 e1 e2
      exact ⟨ds, q1, fun c hc => List.mem_append_right _ (q2 c hc)⟩
structure InitM (prog : Program) (w : World) (hb : Heap) (n : Nat) (C : Addr) (ps : List String) (m : List PyData → Option PyData) : Prop where
  there : ∃ nl mC fI oI, Cls nl hb C mC ∧ mC "__init__" = some (.ref fI) ∧ hb.get? fI = some oI ∧ oI.cls = .type "function" ∧ FnM prog w hb n fI ("self" :: ps) "self" m
theorem wf_blank (C : Addr) : wf (recD C [] []) = true := by
  have h1 : 1 ≤ sizeLine := by decide
  simp [recD, wf, wfk, wfs, h1]
theorem init_call {A : Around} {E : Value → Shared → Prop} {s : Shared} {k : Nat} {C : Addr} {m : List PyData → Option PyData} {us : List Value} {xs : List PyData} {as : List Addr} {d : PyData} {Q : Value → Shared → Prop} {ps : List String} (M : InitM prog w hb k C ps m) (hA : Room A (k + 1)) (b : Base prog Hz hb s.heap) (r : RDs prog w Hz s.heap us xs as) (hw : wfs xs = true)
    (hm : m (recD C [] [] :: xs) = some d) (hpl : ps.length = xs.length)
    (hQ : ∀ a as' s', Keeps s s' → RD prog w Hz s'.heap (.ref a) d as' → as'.Nodup → wf d = true → (∀ c ∈ as', s.heap.get? c = none) → Q (.ref a) s') : wpAny (model prog w) A (call (.ref C) us) Q E s := by
  obtain ⟨nl, mC, fI, oI, KC, hi, hfo, hfc, hf⟩ := M.there
  refine new_core KC hi hfo hfc b.grow fun h' x dx g hx hdx i => ?_
  have r' := r.grow g
  have b' := b.trans g
  have nd : [x, dx].Nodup := by
    obtain ⟨_, _, _, _, _, hne, _⟩ := i
    simp [Ne.symm hne]
  have hself : RD prog w Hz h' (.ref x) (recD C [] []) [x, dx] := RD.inst (rs := []) (fs := []) (vs := []) i (fun _ q => nomatch q) rfl (fun y hy => absurd rfl hy) .nil
  have new : ∀ c ∈ [x, dx], s.heap.get? c = none := fun c hc => by
    simp only [List.mem_cons, List.not_mem_nil, or_false] at hc
    rcases hc with rfl | rfl
    · exact hx
    · exact hdx
  have newb : ∀ c ∈ [x, dx], hb.get? c = none := fun c hc => by
    cases e : hb.get? c with
    | none => rfl
    | some o => have := b.grow _ _ e; rw [new c hc] at this; exact no this
  refine hf (A := A.under _) (s := { s with heap := h' }) (us := .ref x :: us) (xs := recD C [] [] :: xs) (a := x) (d := recD C [] []) (as := [x, dx]) (Room.under hA) b' (.cons hself r') (by simp [wfs, hw, wf_blank]) (by simp [hpl, r.length]) ?_ hm fun as' s' sm kp al rd nd' wf' fr => ?_
  · refine ⟨by simp, by simp, hself, rfl, nd, newb, fun y u z e1 e2 hy => ?_⟩
    simp only [List.zip_cons_cons, List.lookup_cons] at e1 e2
    rw [beq_eq_false_iff_ne.mpr hy] at e1 e2
    obtain ⟨bs, q1, q2⟩ := zip_rd r e1 e2
    refine ⟨bs, q1.grow g, fun c hc hq => ?_⟩
    obtain ⟨o, e⟩ := q1.alive c hc
    rw [new c hq] at e; exact no e
  · obtain ⟨h'', tk, rfl⟩ := sm
    refine ⟨rfl, hQ x as' _ ⟨h'', tk, rfl, fun c o e => kp c o (g c o e) fun q => ?_⟩ rd nd' wf' fun c hc => ?_⟩
    · rw [new c q] at e; exact no e
    · rcases fr c hc with q | q
      · exact new c q
      · cases e : s.heap.get? c with
        | none => rfl
        | some o =>
          have q : h'.get? c = none := q
          rw [g c o e] at q; cases q
theorem InS.ownNew {A : Around} {E : Value → Shared → Prop} {Q : Unit → Shared → Prop} {s₀ s s₁ : Shared} {X : List Addr} {env : Env} {C : List Addr} {ρ : Rho} {O : List (String × List Addr)} (I : InS prog w Hz hb s₀ X env C ρ O s) (k₁ : Keeps s s₁) {x : String} {a : Addr} {d : PyData} {as : List Addr} (hv : isVar env.scope x = true) (rd : RD prog w Hz s₁.heap (.ref a) d as) (nd : as.Nodup) (c : wf d = true) (hn : isNode d = true) (fr : ∀ b ∈ as, s.heap.get? b = none)
    (hQ : ∀ s', InS prog w Hz hb s₀ X env C (ρ.set x (.own (.tree none d))) ((x, as) :: O) s' → Step s.heap s'.heap (WW env C O) (WW env C ((x, as) :: O)) → Step s₁.heap s'.heap (WW env C ((x, as) :: O)) (WW env C ((x, as) :: O)) → Q () s') : wpAny (model prog w) A (storeName env (Str.ofString x) (.ref a)) Q E s₁ := by
  have al := nontup_both.1 rd
  have I₂ := I.growTree k₁ x fr al nd
  refine I₂.store (v := .own (.tree none d)) hv ⟨as, by rw [List.lookup_cons, beq_self_eq_true], .tree rd nd c hn (fun _ q => nomatch q)⟩ fun s' I' t => hQ s' (by rw [← del_set]; exact I') (Step.trans ⟨fun b o e _ => keeps_grow k₁ b o e, fun b hb' => ?_⟩ t) t
  simp only [WW, List.flatMap_cons, List.mem_cons, List.mem_append] at hb' ⊢
  rcases hb' with h | h | h | h
  · exact .inl (.inl h)
  · exact .inl (.inr (.inl h))
  · exact .inr (fr b h)
  · exact .inl (.inr (.inr h))
theorem EvT.new {cls : String} {C : Addr} {ps : List String} {k : Nat} {e : Expr} {rest : List Expr} {np pos : Pos} {m : List PyData → Option PyData} {ms : Rho → Option (List V)} (M : InitM prog w hb k C ps m) (hg : GName hb cls (.ref C)) (hes : Evs prog w hb n sc (e :: rest) ms) (hk : k + 1 ≤ n) (hx : isGlob sc cls = true)
    (he : ∀ env : Env, starEach (e :: rest) env = (false, eval e env) :: starEach rest env) (hplain : ∀ env : Env, (backTo pos (starEach rest env)).any (·.1) = false) :
    EvT prog w hb n sc (.Call (.Name (Str.ofString cls) np) (e :: rest) [] pos) (fun ρ => (ms ρ).bind fun vs => if vs.length = ps.length then m (recD C [] [] :: vs.map (·.x)) else none) := by
  intro A Hz env s₀ X C' ρ O s d Q E hs hA I
  refine bindI fun vs hvs hm hQ => ?_
  split at hm
  · rename_i hl
    show wpAny _ _ (eval (.Name (Str.ofString cls) np) env >>= fun f => callWith pos f [] (backTo pos (starEach (e :: rest) env)) []) _ _ s
    obtain ⟨nl, mC, fI, oI, KC, hi, hfo, hfc, hf⟩ := id M.there
    obtain ⟨N, X⟩ := KC.here
    refine wpAny_bind (eval_glob I (by rw [hs]; exact hx) hg (PyProof.Rows.callWith_cls X (hes hs hA I hvs fun us s₁ k₁ r₁ => ⟨(I.grow k₁).base.grow, ?_⟩) (he env) (hplain env)))
    obtain ⟨as, rd, hw, _⟩ := r₁.rds
    refine init_call M (hA.toRoom.mono hk) (I.grow k₁).base rd hw hm (by rw [List.length_map, hl]) fun a as' s' k' rd' nd' wf' fr => hQ _ as' s' (keeps_trans k₁ k') rd' nd' wf' fun c hc => ?_
    cases e : s.heap.get? c with
    | none => rfl
    | some o => have := keeps_grow k₁ _ _ e; rw [fr c hc] at this; exact no this
  · exact no hm
theorem store_init {A : Around} {E : Value → Shared → Prop} {s : Shared} {k : Nat} {C fI p a dx : Addr} {mC : Str → Option Value} {p1 p2 p3 p4 : Pos} {rest : List Stmt} {m : Rho → Option Out} {d' y : PyData} {bs : List Addr} {Q : Value → Shared → Prop}
    (KC : Cls storeNames hb C mC) (D : DefOk hb fI sc ["self", "plots"] (.Assign [.Attribute (.Name (Str.ofString "self") p1) (Str.ofString "plots") p2] (.Name (Str.ofString "plots") p3) p4 :: rest)) (hloc : sc.names.lookup (Str.ofString "plots") = some .local) (h : St prog w hb k sc rest m)
    (hm : ∀ ρ, ρ "self" = some (.own (.tree (some a) (recD C [(Str.ofString "plots", p)] []))) → ∃ ρ', m ρ = some (.next ρ') ∧ ρ' "self" = some (.own (.tree (some a) d')))
    (hA : Room A (k + 1)) (b : Base prog Hz hb s.heap) (i : IAt s.heap a dx C fun _ => none) (hna : hb.get? a = none) (hnd : hb.get? dx = none) (rp : RD prog w Hz s.heap (.ref p) y bs) (cp : wf y = true) (hbs : ∀ c ∈ bs, c ≠ a ∧ c ≠ dx)
    (hQ : ∀ as' s', (∃ h tk, s' = { s with heap := h, toks := tk }) → (∀ c o, s.heap.get? c = some o → c ∉ [a, dx] → s'.heap.get? c = some o) → RD prog w Hz s'.heap (.ref a) d' as' → as'.Nodup → wf d' = true → (∀ c ∈ as', c ∈ [a, dx] ∨ s.heap.get? c = none) → Q .none s') :
    wpAny (model prog w) A (call (.ref fI) [.ref a, .ref p]) Q E s := by
  obtain ⟨fo, fd, args, ho, hd, hp, hnm, hbd, hsc, hcl, hdf, hgl, hbu, hcr⟩ := D.there
  have nd : [a, dx].Nodup := by
    obtain ⟨_, _, _, _, _, hne, _⟩ := i
    simp [Ne.symm hne]
  have hself : RD prog w Hz s.heap (.ref a) (recD C [] []) [a, dx] := RD.inst (rs := []) (fs := []) (vs := []) i (fun _ q => nomatch q) rfl (fun y hy => absurd rfl hy) .nil
  have T : Handed prog w Hz hb s.heap ["self", "plots"] "self" [.ref a, .ref p] [recD C [] [], y] a (recD C [] []) [a, dx] := by
    refine ⟨by simp, by simp, hself, rfl, nd, fun c hc => ?_, fun z u x e1 e2 hy => ?_⟩
    · simp only [List.mem_cons, List.not_mem_nil, or_false] at hc
      rcases hc with rfl | rfl
      · exact hna
      · exact hnd
    · simp only [List.zip_cons_cons, List.lookup_cons] at e1 e2
      rw [beq_eq_false_iff_ne.mpr hy] at e1 e2
      by_cases hz : z = "plots"
      · subst hz
        simp only [beq_self_eq_true] at e1 e2
        (have e := si e1; subst e; clear e1); (have e := si e2; subst e; clear e2)
        refine ⟨bs, rp, fun c hc hq => ?_⟩
        simp only [List.mem_cons, List.not_mem_nil, or_false] at hq
        rcases hq with hq | hq
        · exact (hbs c hc).1 hq
        · exact (hbs c hc).2 hq
      · rw [beq_eq_false_iff_ne.mpr hz] at e1
        simp at e1
  have hul : args.length = [Value.ref a, .ref p].length := by simpa using congrArg List.length hnm
  have hnames : (args.map (·.arg)).Nodup := by
    rw [hnm]
    rw [List.Nodup, List.pairwise_map]
    exact D.names.imp fun h e => h (ofString_inj e)
  refine wpAny_call (codeAny_call_function (fd := fd) (body := _ :: rest) (by have := hA.depth; lia) (b.grow _ _ ho) hd (by rw [hsc]; exact D.co) (by rw [hsc]; exact D.gen) hbd (hcr.keeps b.grow) ?_)
  rw [bind_plain hp hdf hul hnames, hnm, hsc, hgl, hcl, hbu]
  refine wpAny_pure (wpAny_newFunctionEnv_cells D.kind (fun z hz => ?_) fun env he s' x => ?_)
  · have := (List.of_mem_zip hz).1
    obtain ⟨p, hp', e⟩ := List.mem_map.mp this
    rw [← e]
    refine (isVar_kinds (D.vars p hp')).imp id fun q => ⟨q, cells_some _ _ _ (.inl q)⟩
  · have e1 : env.scope = sc := by rw [he]; rfl
    have e2 : env.globals = mainGlobals := by rw [he]; rfl
    have e3 : env.builtins = builtinsNs := by rw [he]; rfl
    have e4 : env.cells = cellsFrom (env.locals + 1) sc.names [] := by rw [he]; rfl
    have I := InS.startX (w := w) b e1 D.kind e2 e3 e4 D.once D.names (.cons hself (.cons rp .nil)) (by simp [wfs, wf_blank, cp]) rfl T x
    refine ⟨I.base.nolimit, codeAny_func ?_⟩
    have pe : PlainEnv env := ⟨by rw [e1]; exact D.gen, by rw [e1]; exact D.co, e3, e2⟩
    have hkl : env.kindOf (Str.ofString "plots") = some .local := by unfold Env.kindOf; rw [e1]; exact hloc
    have hval : bindL env.kindOf ((["self", "plots"].map Str.ofString).zip [.ref a, .ref p]) (fun _ => none) (Str.ofString "plots") = some (.ref p) := (bind_val (c := fun _ => none) D.names (show ((["self", "plots"] : List String).zip [Value.ref a, .ref p]).lookup "plots" = some (.ref p) from rfl)).1 hkl
    refine wpAny_execs_cons (plainObj_wpAny_Assign_Attribute (wpAny_Name (wpAny_loadName_local I.kind hkl x.toInCall.ns hval ?_) (by decide)) rfl)
    refine I.newAttr (d' := recD C [(Str.ofString "plots", p)] []) (bs := []) KC (by decide) (keeps_refl _) (by rw [e1]; exact D.vars _ (.head _)) (by rw [set_if]; exact if_pos rfl) (fun _ q => nomatch q) List.nodup_nil ?_ rfl (fun a' as rt => ?_) fun O' s₂ I₂ t₂ => ?_
    · have h1 : 2 ≤ sizeLine := by decide
      have h2 : 1 ≤ sizeLine := by decide
      have h3 : wf (.str (Str.ofString "plots")) = true := by decide +kernel
      simp [recD, wf, wfk, wfs, h1, h2]
      simpa [wf] using h3
    · obtain ⟨a'', dx', rs, gs, vs, mm, bs₀, e0, ex, rfl, _, i', q, e, nn, rr⟩ := rt.inst_inv (instP_rec C [] [])
      cases e0
      obtain ⟨rfl, rfl⟩ := rec_inj ex
      obtain ⟨rfl, rfl⟩ := rr.nil_inv
      refine ⟨dx', mm, [], [], rfl, i', nn, by decide, fun h' i'' keep nd' hne => ?_⟩
      exact RD.inst (rs := [(Str.ofString "plots", p)]) (fs := []) (vs := []) i'' (fun q' hq' => by rw [List.mem_singleton.mp hq']; exact if_pos rfl) rfl (fun z hz => by
        by_cases ez : z = Str.ofString "plots"
        · rw [ez]; exact .head _
        · rw [if_neg ez] at hz
          exact absurd (nn z hz) (by simp)) .nil
    · obtain ⟨ρ', q1, q2⟩ := hm (((rho0 ["self", "plots"] [recD C [] [], y]).set "self" (.own (.tree (some a) (recD C [] [])))).set "self" (.own (.tree (some a) (recD C [(Str.ofString "plots", p)] [])))) (by rw [set_if]; exact if_pos rfl)
      refine h e1 (hA.deeper pe) I₂ q1 ?_
      intro O₃ s₃ J t₃
      obtain ⟨as', r1, r2, r3, r4⟩ := J.endTree q2 (by rw [e1]; exact D.vars _ (.head _))
      exact hQ as' s₃ J.same (fun c o e q => J.keep c o e q) r1 r2 r3 r4
noncomputable def st0 : StF := ⟨.list [], 0, .list [], .dict [], [], []⟩
noncomputable def newD (C p : Addr) : PyData := recD C [(Str.ofString "plots", p)] [(Str.ofString "told", .list []), (Str.ofString "opened", .int 0), (Str.ofString "given", .list []), (Str.ofString "standing", .dict []), (Str.ofString "held", .dict [])]
theorem RD.toStore {h : Heap} {C V p a : Addr} {as : List Addr} (r : RD prog w Hz h (.ref a) (newD C p) as) (nd : as.Nodup) : ∃ as', RD prog w Hz h (.ref a) (storeD C V p st0) as' ∧ as'.Nodup ∧ ∀ c ∈ as', c ∈ as := by
  obtain ⟨a', dx, rs, gs, vs, m, bs, e0, ex, rfl, _, i, q, e, nn, rr⟩ := r.inst_inv (instP_rec C _ _)
  cases e0
  obtain ⟨rfl, rfl⟩ := rec_inj ex
  have H := rr.unI; clear rr; induction H with | mk v1 vs b1 c1 r1 rr1 => ?_
  have H := rr1.unI; clear rr1; induction H with | mk v2 vs b2 c2 r2 rr2 => ?_
  have H := rr2.unI; clear rr2; induction H with | mk v3 vs b3 c3 r3 rr3 => ?_
  have H := rr3.unI; clear rr3; induction H with | mk v4 vs b4 c4 r4 rr4 => ?_
  have H := rr4.unI; clear rr4; induction H with | mk v5 vs b5 c5 r5 rr5 => ?_
  obtain ⟨rfl, rfl⟩ := rr5.nil_inv
  simp only [List.map_cons, List.map_nil, List.cons.injEq, and_true] at e
  obtain ⟨m1, m2, m3, m4, m5⟩ := e
  induction r2.intI with | mk t2 => ?_
  obtain rfl := r2.flat_foot rfl
  obtain ⟨hd, ks, xs, b5', rfl, rfl, ex, q1, q2, q3, q4⟩ := r5.dict_inv rfl
  have hxs : xs = [] := by induction xs with | nil => rfl | cons x xs => cases ex
  subst hxs
  have hks : ks = [] := by induction ks with | nil => rfl | cons x xs => cases q3
  subst hks
  cases q4
  have st : StoreAt prog w h a dx C V p hd [] st0 [v1, v3, v4] m [] := by
    refine ⟨i, m5, ⟨t2, m2⟩, q _ (.head _), ?_, ?_, q1, q2, rfl, rfl, fun _ q => (nomatch q), rfl, fun j b db x y e => by simp at e⟩
    · show [m (Str.ofString "told"), m (Str.ofString "given"), m (Str.ofString "standing")] = _
      rw [m1, m3, m4]; rfl
    · intro z hz
      have := nn z hz
      simp only [List.map_cons, List.map_nil, List.cons_append, List.nil_append, List.mem_cons, List.not_mem_nil, or_false] at this
      unfold storeNames
      rcases this with rfl | rfl | rfl | rfl | rfl | rfl <;> decide
  refine ⟨_, RD.store st (.cons r1 (.cons r3 (.cons r4 .nil))), ?_, ?_⟩
  · simp only [footS, List.flatMap_nil, List.nil_append, List.append_nil] at nd ⊢
    refine List.Perm.nodup ?_ nd
    show (a :: dx :: (b1 ++ (b3 ++ (b4 ++ [hd])))).Perm (a :: dx :: hd :: (b1 ++ (b3 ++ b4)))
    refine .cons _ (.cons _ ?_)
    rw [← List.append_assoc, ← List.append_assoc, ← List.append_assoc]
    exact List.perm_append_comm
  · intro c hc
    simp only [footS, List.flatMap_nil, List.nil_append, List.append_nil, List.mem_cons, List.mem_append, List.cons_append, List.not_mem_nil, or_false] at hc ⊢
    rcases hc with h | h | h | h | h | h <;> simp [h]
noncomputable def hideH (W : List Addr) (h : Heap) : Heap := ⟨h.objs.mapIdx fun i o => if i ∈ W then { o with data := .freed } else o, h.life⟩
theorem hideH_get (W : List Addr) (h : Heap) (b : Addr) : (hideH W h).get? b = if b ∈ W then none else h.get? b := by
  unfold Heap.get? hideH
  simp only [Array.getElem?_mapIdx]
  cases e : h.objs[b]? with
  | none => simp
  | some o =>
    by_cases hw : b ∈ W
    · simp [hw]
    · simp [hw]
theorem hideH_sub {W : List Addr} {h : Heap} : Grow (hideH W h) h := fun b o e => by
  rw [hideH_get] at e
  split at e
  · exact no e
  · exact e
theorem keptZ_both {h h' : Heap} : (∀ {v x as}, RD prog w Hz h v x as → (∀ b o, h.get? b = some o → (b ∈ as ∨ (Tup o ∧ b ∉ Hz)) → h'.get? b = some o) → RD prog w [] h' v x as) ∧ ∀ {vs xs as}, RDs prog w Hz h vs xs as → (∀ b o, h.get? b = some o → (b ∈ as ∨ (Tup o ∧ b ∉ Hz)) → h'.get? b = some o) → RDs prog w [] h' vs xs as :=
  RD.both (fun _ => .none) (fun b _ => .bool b) (fun i t _ => .int i t) (fun i t _ => .str i t) (fun a _ r k => .list (k _ _ a (.inl (.head _))) (r fun b o e q => k b o e (q.imp (.tail _) id))) (fun a z _ r k => .tuple (k _ _ a (.inr ⟨⟨_, _, rfl⟩, z⟩)) (fun q => nomatch q) (r k))
    (fun p g e _ r k => .dict (by obtain ⟨o, es, ep, ho, p⟩ := p; exact ⟨o, es, ep, k _ _ ho (.inl (.head _)), p⟩) g e (r fun b o e q => k b o e (q.imp (.tail _) id)))
    (fun i k => .val (i.kept fun c hc o e => k c o e (.inl hc))) (fun i _ r k => .store (i.kept fun c hc o e => k c o e (.inl (List.mem_append_left _ hc))) (r fun b o e q => k b o e (q.imp (List.mem_append_right _) id)))
    (fun i p e n _ r k => .inst (i.kept (fun o eo => k _ o eo (.inl (.head _))) (fun o eo => k _ o eo (.inl (.tail _ (.head _))))) p e n (r fun b o e q => k b o e (q.imp (fun q => .tail _ (.tail _ q)) id))) (fun _ => .nil)
    (fun _ _ a r k => .cons (a fun b o e q => k b o e (q.imp (List.mem_append_left _) id)) (r fun b o e q => k b o e (q.imp (List.mem_append_right _) id)))
theorem Base.back {hb hb' h : Heap} (R : Base prog [] hb hb) (g : Grow hb hb') (b : Base prog Hz hb' h) : Base prog Hz hb h := by
  refine ⟨fun z hz => ⟨?_, (b.hide z hz).2⟩, R.lim, R.seer, R.tree, R.mods, g.trans b.grow⟩
  cases e : hb.get? z with
  | none => rfl
  | some o => have := g _ _ e; rw [(b.hide z hz).1] at this; exact no this
theorem Base.up {hb hb' : Heap} (R : Base prog [] hb hb) (g : Grow hb hb') : Base prog [] hb' hb' := by
  obtain ⟨o, ho⟩ := R.mods
  exact ⟨fun _ q => (nomatch q), R.lim.keeps g, R.seer.keeps g, R.tree, ⟨o, g _ _ ho⟩, Grow.refl _⟩
theorem GName.up {hb hb' : Heap} {x : String} {v : Value} (g : Grow hb hb') (h : GName hb x v) : GName hb' x v := by
  rcases h with ⟨mg, hm, hv⟩ | ⟨mg, mb, hm, h0, hm', hv⟩
  · exact .inl ⟨mg, hm.keeps g, hv⟩
  · exact .inr ⟨mg, mb, hm.keeps g, h0, hm'.keeps g, hv⟩
theorem Fn.up {hb hb' : Heap} (R : Base prog [] hb hb) (g : Grow hb hb') {f : Addr} {m : List PyData → Option PyData} (h : Fn prog w hb n f m) : Fn prog w hb' n f m := by
  intro A Hz s us xs as y Q E hA b rd hw hm hQ
  exact h hA (R.back g b) rd hw hm hQ
theorem DefG.up {hb hb' : Heap} (R : Base prog [] hb hb) (g : Grow hb hb') {x : String} {m : List PyData → Option PyData} (h : DefG prog w hb n x m) : DefG prog w hb' n x m := by
  obtain ⟨a, o, fd, h1, h2, h3, h4⟩ := h
  exact ⟨a, o, fd, h1.up g, g _ _ h2, h3, h4.up R g⟩
theorem DefT.up {hb hb' : Heap} (R : Base prog [] hb hb) (g : Grow hb hb') {x : String} {d : PyData} (h : DefT prog w hb n x d) : DefT prog w hb' n x d := by
  obtain ⟨a, o, fd, h1, h2, h3, h4⟩ := h
  refine ⟨a, o, fd, h1.up g, g _ _ h2, h3, ?_⟩
  intro A Hz s Q E hA b hQ
  exact h4 hA (R.back g b) hQ
theorem Handed.back {hb hb' h : Heap} (g : Grow hb hb') {ps : List String} {px : String} {us : List Value} {xs : List PyData} {a : Addr} {d : PyData} {as : List Addr} (H : Handed prog w Hz hb' h ps px us xs a d as) : Handed prog w Hz hb h ps px us xs a d as :=
  ⟨H.val, H.dat, H.tree, H.node, H.nodup, fun c hc => by
    cases e : hb.get? c with
    | none => rfl
    | some o => (have := g _ _ e; rw [H.new c hc] at this; exact no this), H.args⟩
theorem DefM.up {hb hb' : Heap} (R : Base prog [] hb hb) (g : Grow hb hb') {x : String} {ps : List String} {px : String} {m : List PyData → Option PyData} (h : DefM prog w hb n x ps px m) : DefM prog w hb' n x ps px m := by
  obtain ⟨a, o, fd, h1, h2, h3, h4⟩ := h
  refine ⟨a, o, fd, h1.up g, g _ _ h2, h3, ?_⟩
  intro A Hz s us xs as₀ as a d d' Q E hA b rd hw hl H hm hQ
  exact h4 hA (R.back g b) rd hw hl (H.back g) hm hQ
theorem Bui.up {hb hb' : Heap} (g : Grow hb hb') (B : Bui hb) : Bui hb' := ⟨B.len.up g, B.isinstance.up g, B.range.up g, B.int.up g, B.bool.up g, B.str.up g, B.list.up g, B.tuple.up g⟩
theorem Cls.up {hb hb' : Heap} (g : Grow hb hb') {ns : List Str} {C : Addr} {mC : Str → Option Value} (K : Cls ns hb C mC) : Cls ns hb' C mC := by
  obtain ⟨N, X⟩ := K.here
  exact ⟨⟨N, X.keeps g⟩, K.ga, K.gh, K.sa, K.attrs, K.obj⟩
theorem DefOk.up {hb hb' : Heap} (g : Grow hb hb') {f : Addr} {ps : List String} {body : List Stmt} (D : DefOk hb f sc ps body) : DefOk hb' f sc ps body := by
  obtain ⟨fo, fd, args, h1, h2, h3, h4, h5, h6, h7, h8, h9, h10, h11⟩ := D.there
  exact ⟨⟨fo, fd, args, g _ _ h1, h2, h3, h4, h5, h6, h7, h8, h9, h10, h11.keeps g⟩, D.kind, D.gen, D.co, D.once, D.names, D.vars⟩
theorem MethAt.up {hb hb' : Heap} (g : Grow hb hb') {C : Addr} {y : String} {ps : List String} {body : List Stmt} (D : MethAt hb C y sc ps body) : MethAt hb' C y sc ps body := by
  obtain ⟨mC, f, fo, fd, r, h1, h2, h3, h4, h5, h6, h7⟩ := D
  exact ⟨mC, f, fo, fd, r, h1.up g, h2, g _ _ h3, h4, h5, h6, h7.up g⟩
section
variable {s₀ s : Shared} {X : List Addr} {env : Env} {C : List Addr} {ρ : Rho} {O : List (String × List Addr)}
theorem InS.back {hb' : Heap} (R : Base prog [] hb hb) (g : Grow hb hb') (I : InS prog w Hz hb' s₀ X env C ρ O s) : InS prog w Hz hb s₀ X env C ρ O s := by
  refine ⟨⟨I.same, R.back g I.base, I.keep, I.alive, I.walive, fun a ha => ⟨?_, (I.wfresh a ha).2⟩, I.wnodup, I.kind, I.glob, I.bult, I.clk, I.ns, I.cell⟩, I.fc, I.finj, I.cello⟩
  cases e : hb.get? a with
  | none => rfl
  | some o => have := g _ _ e; rw [(I.wfresh a ha).1] at this; exact no this
theorem Ends.up {hb' : Heap} (R : Base prog [] hb hb) (g : Grow hb hb') {r : Out} {Q : Flow → Shared → Prop} (h : Ends prog w Hz hb s₀ X env C O s r Q) : Ends prog w Hz hb' s₀ X env C O s r Q := by
  induction r with
  | next ρ => exact fun O'' s'' I t => h O'' s'' (I.back R g) t
  | brk ρ => exact fun O'' s'' I t => h O'' s'' (I.back R g) t
  | cont ρ => exact fun O'' s'' I t => h O'' s'' (I.back R g) t
  | ret x => exact fun u as O' ρ s' I r c f => h u as O' ρ s' (I.back R g) r c f
  | retT x ρ => exact fun u O' s' I r c => h u O' s' (I.back R g) r c
theorem InS.rebase (I : InS prog w Hz hb s₀ X env C ρ O s) : InS prog w Hz (hideH (WW env C O ++ Hz) s.heap) s₀ X env C ρ O s ∧ Grow hb (hideH (WW env C O ++ Hz) s.heap) := by
  have g : Grow hb (hideH (WW env C O ++ Hz) s.heap) := fun b o e => by
    rw [hideH_get, if_neg]
    · exact I.base.grow b o e
    · intro q
      rcases List.mem_append.mp q with q | q
      · rw [(I.wfresh b q).1] at e; exact no e
      · rw [(I.base.hide b q).1] at e; exact no e
  refine ⟨⟨⟨I.same, ?_, I.keep, I.alive, I.walive, fun a ha => ⟨?_, (I.wfresh a ha).2⟩, I.wnodup, I.kind, I.glob, I.bult, I.clk, I.ns, I.cell⟩, I.fc, I.finj, I.cello⟩, g⟩
  · obtain ⟨o, ho⟩ := I.base.mods
    refine ⟨fun z hz => ⟨?_, (I.base.hide z hz).2⟩, I.base.lim.keeps g, I.base.seer.keeps g, I.base.tree, ⟨o, g _ _ ho⟩, hideH_sub⟩
    rw [hideH_get, if_pos (List.mem_append_right _ hz)]
  · rw [hideH_get, if_pos (List.mem_append_left _ ha)]
end
noncomputable def NewM (prog : Program) (w : World) (hb : Heap) (n : Nat) (sc : Scope) (rest : List Stmt) (C Va : Addr) (x : String) (z : PyData) (ps : List PyData) (ρ : Rho) : Prop :=
  ∀ (hb' : Heap) (p : Addr), Grow hb hb' → Base prog [] hb' hb' → ListAt prog w hb' p ps → ∃ m', St prog w hb' n sc rest m' ∧ run m' (ρ.set x (.own (.tree none (storeD C Va p st0)))) = some (.ret z)
open Classical in
noncomputable def mNew (prog : Program) (w : World) (hb : Heap) (n : Nat) (sc : Scope) (rest : List Stmt) (C Va : Addr) (x : String) (z : PyData) (m : Rho → Option V) : Rho → Option Out := fun ρ => (m ρ).bind fun v => (listOfD v.x).bind fun ps => if v.fl ≠ .t ∧ flats ps = true ∧ NewM prog w hb n sc rest C Va x z ps ρ then some (.ret z) else none
theorem mNew_run {rest : List Stmt} {C Va : Addr} {x : String} {z : PyData} {m : Rho → Option V} {ρ : Rho} {ps : List PyData} {fl : Fl} (h1 : m ρ = some ⟨.list ps, fl⟩) (h2 : fl ≠ .t) (h3 : flats ps = true) (h4 : NewM prog w hb n sc rest C Va x z ps ρ) : run (mNew prog w hb n sc rest C Va x z m) ρ = some (.ret z) := by
  unfold run mNew
  rw [h1, Option.bind_some]
  show Option.bind (some ps) _ = _
  rw [Option.bind_some, if_pos ⟨h2, h3, h4⟩]
structure StoreInit (prog : Program) (w : World) (hb : Heap) (k : Nat) (C : Addr) : Prop where
  there : ∃ mC fI oI scI p1 p2 p3 p4 restI mI, Cls storeNames hb C mC ∧ mC "__init__" = some (.ref fI) ∧ hb.get? fI = some oI ∧ oI.cls = .type "function" ∧
    DefOk hb fI scI ["self", "plots"] (.Assign [.Attribute (.Name (Str.ofString "self") p1) (Str.ofString "plots") p2] (.Name (Str.ofString "plots") p3) p4 :: restI) ∧ scI.names.lookup (Str.ofString "plots") = some .local ∧ St prog w hb k scI restI mI ∧
    ∀ (a p : Addr) (ρ : Rho), ρ "self" = some (.own (.tree (some a) (recD C [(Str.ofString "plots", p)] []))) → ∃ ρ', mI ρ = some (.next ρ') ∧ ρ' "self" = some (.own (.tree (some a) (newD C p)))
theorem St.newStore {x : String} {e : Expr} {np cp p pos : Pos} {k : Nat} {rest : List Stmt} {C Va : Addr} (z : PyData) {m : Rho → Option V} (R : Base prog [] hb hb) (M : StoreInit prog w hb k C) (hg : GName hb "Store" (.ref C)) (h : Ev prog w hb n sc e m) (hk : k + 2 ≤ n) (hv : isVar sc x = true) (hx : isGlob sc "Store" = true)
    (he : ∀ env : Env, starEach [e] env = (false, eval e env) :: starEach [] env) (hsw : ∀ env : Env, env.scope = sc → swapsWith (.Call (.Name (Str.ofString "Store") np) [e] [] cp) (some (.Name (Str.ofString x) p)) pos.line env = pure false) :
    St prog w hb n sc (.Assign [.Name (Str.ofString x) p] (.Call (.Name (Str.ofString "Store") np) [e] [] cp) pos :: rest) (mNew prog w hb n sc rest C Va x z m) := by
  intro A Hz env s₀ X C' ρ O s r Q E hs hA I
  refine bindI fun v hv' => bindI fun ps hps hm hQ => ?_
  split at hm
  · rename_i hc
    obtain ⟨hfl, hfs, hnew⟩ := hc
    cases hm
    obtain ⟨mC, fI, oI, scI, p1, p2, p3, p4, restI, mI, KC, hi, hfo, hfc, D, hloc, hSt, hmI⟩ := M.there
    obtain ⟨N, XC⟩ := KC.here
    refine wpAny_execs_cons (wpAny_Assign_Name ?_ (hsw env hs))
    show wpAny _ _ (eval (.Name (Str.ofString "Store") np) env >>= fun f => callWith cp f [] (backTo cp (starEach [e] env)) []) _ _ s
    refine wpAny_bind (eval_glob I.toInF (by rw [hs]; exact hx) hg (PyProof.Rows.callWith_cls XC ?_ (he env) rfl))
    rw [he env]
    refine spliced_cons (h hs hA I.toInF hv' fun u s₁ k₁ r₁ => spliced_nil ⟨(I.grow k₁).base.grow, ?_⟩)
    obtain ⟨as, rd, cw, fo⟩ := r₁
    rw [listOfD_some hps] at rd cw
    induction rd.listI with | mk p us kk bs a1 a2 => ?_
    have hfW : ∀ c ∈ p :: bs, c ∉ WW env C' O := by
      cases hf : v.fl with
      | d => rw [hf] at fo; exact fun c hc => (fo c hc).2
      | s => rw [hf] at fo; exact fo
      | t => exact absurd hf hfl
    obtain rfl := a2.flat_foot hfs
    have I₁ := I.grow k₁
    refine new_core KC hi hfo hfc I₁.base.grow fun h' a dx g ha hdx i => ?_
    have nb : ∀ c, s₁.heap.get? c = none → hb.get? c = none := fun c hc => by
      cases e : hb.get? c with
      | none => rfl
      | some o => have := I₁.base.grow _ _ e; rw [hc] at this; exact no this
    refine store_init (A := A.under _) (s := { s₁ with heap := h' }) KC D hloc hSt (hmI a p) (Room.under (hA.toRoom.mono hk)) (I₁.base.trans g) i (nb a ha) (nb dx hdx) (rd.grow g) cw (fun c hc => ?_) fun as' s₂ sm kp rd₂ nd₂ wf₂ fr₂ => ?_
    · obtain ⟨o, eo⟩ := rd.alive c hc
      exact ⟨fun q => (by rw [q, ha] at eo; exact no eo), fun q => (by rw [q, hdx] at eo; exact no eo)⟩
    · refine ⟨rfl, ?_⟩
      obtain ⟨as'', rd₃, nd₃, sub₃⟩ := rd₂.toStore (V := Va) nd₂
      have new : ∀ c ∈ [a, dx], s₁.heap.get? c = none := fun c hc => by
        simp only [List.mem_cons, List.not_mem_nil, or_false] at hc
        rcases hc with rfl | rfl
        · exact ha
        · exact hdx
      have fr₃ : ∀ c ∈ as'', s₁.heap.get? c = none := fun c hc => by
        rcases fr₂ c (sub₃ c hc) with q | q
        · exact new c q
        · cases e : s₁.heap.get? c with
          | none => rfl
          | some o => have q : h'.get? c = none := q; rw [g c o e] at q; cases q
      have k₂ : Keeps s₁ s₂ := by
        obtain ⟨h'', tk, rfl⟩ := sm
        exact ⟨h'', tk, rfl, fun c o e => kp c o (g c o e) fun q => by rw [new c q] at e; exact no e⟩
      have kk₂ := keeps_trans k₁ k₂
      have fr : ∀ c ∈ as'', s.heap.get? c = none := fun c hc => by
        cases e : s.heap.get? c with
        | none => rfl
        | some o => have := keeps_grow k₁ _ _ e; rw [fr₃ c hc] at this; exact no this
      have wfS : wf (storeD C Va p st0) = true := by
        rw [wf_store]
        exact ⟨by decide, by decide, by decide, by decide, by decide⟩
      refine I.ownNew kk₂ (by rw [hs]; exact hv) rd₃ nd₃ wfS rfl fr fun s₃ I₃ t₃ t₄ => ?_
      obtain ⟨J, gJ⟩ := I₃.rebase
      have pal := rd.alive p (.head _)
      have inW : ∀ c, c ∈ WW env C' ((x, as'') :: O) → c ∈ as'' ∨ c ∈ WW env C' O := fun c hq => by
        simp only [WW, List.flatMap_cons, List.mem_cons, List.mem_append] at hq ⊢
        rcases hq with h | h | h | h
        · exact .inr (.inl h)
        · exact .inr (.inr (.inl h))
        · exact .inl h
        · exact .inr (.inr (.inr h))
      have pW : p ∉ WW env C' ((x, as'') :: O) := fun q => by
        obtain ⟨o, eo⟩ := pal
        rcases inW p q with h | h
        · rw [fr₃ p h] at eo; exact no eo
        · exact hfW p (.head _) h
      have pH : p ∉ Hz := fun q => by
        obtain ⟨_, o, eo, t⟩ := I₁.base.hide p q
        rw [a1] at eo; (have e := si eo; subst e; clear eo); exact not_tup_lst _ _ t
      have up : ∀ c o, s₁.heap.get? c = some o → c ∉ WW env C' ((x, as'') :: O) → c ∉ Hz → (hideH (WW env C' ((x, as'') :: O) ++ Hz) s₃.heap).get? c = some o := fun c o e h1 h2 => by
        rw [hideH_get, if_neg (fun q => (List.mem_append.mp q).elim h1 h2)]
        exact t₄.keep c o (keeps_grow k₂ c o e) h1
      have hL : ListAt prog w (hideH (WW env C' ((x, as'') :: O) ++ Hz) s₃.heap) p ps := by
        refine ⟨us, kk, up p _ a1 pW pH, keptZ_both.2 a2 fun c o e q => ?_, cw⟩
        rcases q with q | ⟨q1, q2⟩
        · exact nomatch q
        · refine up c o e (fun hq => ?_) q2
          rcases inW c hq with h | h
          · rw [fr₃ c h] at e; exact no e
          · obtain ⟨o', e', nt⟩ := I₁.walive c h
            rw [e] at e'; (have e := si e'; subst e; clear e'); exact nt q1
      obtain ⟨m', hSt', hm'⟩ := hnew _ p gJ (R.up gJ) hL
      exact hSt' hs hA J (show m' _ = _ from hm') (Ends.up R gJ (Ends.trans t₃ hQ))
  · exact no hm
end

section
open PySem PySem.Calls PySem.W PyProof.Rows
variable {prog : Program} {w : World} {hb : Heap}
noncomputable def fnP (p : Program) (i : Nat) : Arguments := match p.main.body[i]? with
  | some (.FunctionDef _ a _ _ _ _ _ _ _ _) => a
  | _ => ⟨[], [], none, [], [], none, []⟩
noncomputable def recB (p : Program) (i : Nat) : List Stmt := match (recsOf p)[i]? with
  | some d => d.body
  | none => []
noncomputable def recS (p : Program) (i : Nat) : Scope := match (recsOf p)[i]? with
  | some d => d.scope
  | none => default
noncomputable def recP (p : Program) (i : Nat) : Arguments := match (recsOf p)[i]? with
  | some d => d.params
  | none => ⟨[], [], none, [], [], none, []⟩
noncomputable def recN (p : Program) (i : Nat) : Option Str := match (recsOf p)[i]? with
  | some d => some d.name
  | none => none
noncomputable def defLook (sc : Scope) (a : Arguments) (ps : List String) : Bool :=
  a.posonlyargs.isEmpty && a.vararg.isNone && a.kwonlyargs.isEmpty && a.kw_defaults.isEmpty && a.kwarg.isNone && a.defaults.isEmpty && decide (a.args.map (·.arg) = ps.map Str.ofString) && decide (sc.kind = .function) && !sc.isGenerator && !sc.isCoroutine && cellsOnce sc && decide ps.Nodup && ps.all fun x => isVar sc x
theorem defLook_ok {sc : Scope} {a : Arguments} {ps : List String} (h : defLook sc a ps = true) : a = ⟨[], a.args, none, [], [], none, []⟩ ∧ a.args.map (·.arg) = ps.map Str.ofString ∧ sc.kind = .function ∧ sc.isGenerator = false ∧ sc.isCoroutine = false ∧ cellsOnce sc = true ∧ ps.Nodup ∧ ∀ x ∈ ps, isVar sc x = true := by
  obtain ⟨a1, a2, a3, a4, a5, a6, a7⟩ := a
  simp only [defLook, Bool.and_eq_true, List.isEmpty_iff, Option.isNone_iff_eq_none, decide_eq_true_eq, Bool.not_eq_true', List.all_eq_true] at h
  obtain ⟨⟨⟨⟨⟨⟨⟨⟨⟨⟨⟨⟨rfl, rfl⟩, rfl⟩, rfl⟩, rfl⟩, rfl⟩, h1⟩, h2⟩, h3⟩, h4⟩, h5⟩, h6⟩, h7⟩ := h
  exact ⟨rfl, h1, h2, h3, h4, h5, h6, h7⟩
theorem defTop {p q : Program} {loose : List Str} {mean : ExcName → Option Value} {mg mb : Str → Option Value} (T : Top p loose mean mg mb hb) (i k : Nat) {x : String} {ps : List String} (hN : recN p i = some (Str.ofString x)) (hB : recB p i = fnB q k) (hS : recS p i = fnS q k) (hP : recP p i = fnP q k) (hl : defLook (fnS q k) (fnP q k) ps = true) :
    DefAt hb x (fnS q k) ps (fnB q k) := by
  obtain ⟨hA, hnm, hk, hgen, hco, hon, hnd, hv⟩ := defLook_ok hl
  cases hd : (recsOf p)[i]? with
  | none => rw [recN, hd] at hN; cases hN
  | some d =>
    have eN : d.name = Str.ofString x := by rw [recN, hd] at hN; exact Option.some.inj hN
    have eB : d.body = fnB q k := by rw [recB, hd] at hB; exact hB
    have eS : d.scope = fnS q k := by rw [recS, hd] at hS; exact hS
    have eP : d.params = ⟨[], (fnP q k).args, none, [], [], none, []⟩ := by rw [recP, hd] at hP; exact hP.trans hA
    obtain ⟨a, o, pm, code, doc, h1, h2, h3, h4⟩ := T.fn d (List.mem_of_getElem? hd)
    rw [eN] at h1
    exact ⟨a, .inl ⟨mg, T.g, h1⟩, ⟨o, _, _, h2, h3, eP, hnm, by rw [← eB]; rfl, eS, rfl, rfl, rfl, rfl, h4⟩, hk, hgen, hco, hon, hnd, hv⟩
noncomputable def bLook (p : Program) (loose : List Str) (x : String) : Bool := !startupNames.contains (Str.ofString x) && !loose.contains (Str.ofString x) && !((recsOf p).map (·.name)).contains (Str.ofString x) && !((litsOf p).map (·.1)).contains (Str.ofString x) && !((clssOf p loose).map (·.name)).contains (Str.ofString x) && !(Str.ofString x == ("__name__" : Str))
theorem bTop {p : Program} {loose : List Str} {mean : ExcName → Option Value} {mg mb : Str → Option Value} (T : Top p loose mean mg mb hb) {x : String} {v : Value} (hl : bLook p loose x = true) (hv : bootBuiltins (Str.ofString x) = some v) : GName hb x v := by
  simp only [bLook, Bool.and_eq_true, Bool.not_eq_true', List.contains_eq_mem, decide_eq_false_iff_not, beq_eq_false_iff_ne] at hl
  exact .inr ⟨mg, mb, T.g, T.free _ hl.1.1.1.1.1 hl.1.1.1.1.2 hl.1.1.1.2 hl.1.1.2 hl.1.2, T.b, (T.builtins _ hl.2).trans hv⟩
noncomputable def MethN (ns : List Str) (hb : Heap) (C : Addr) (y : String) (sc : Scope) (ps : List String) (body : List Stmt) : Prop :=
  ∃ mC f fo fd r, Cls ns hb C mC ∧ mC (Str.ofString y) = some (.ref f) ∧ hb.get? f = some fo ∧ fo.cls = .type "function" ∧ fo.data = .func fd ∧ typeLookup (.type "object") (Str.ofString y) = pure r ∧ DefOk hb f sc ps body
noncomputable def plM (p : Program) (loose : List Str) (i j : Nat) : Option MethRec := ((plainsOf p loose)[i]?).bind fun c => c.meths[j]?
noncomputable def mthP (p : Program) (i j : Nat) : Arguments := match mthOf p i j with
  | some (.FunctionDef _ a _ _ _ _ _ _ _ _) => a
  | _ => ⟨[], [], none, [], [], none, []⟩
theorem clsTop {p : Program} {loose : List Str} {mg : Str → Option Value} (TE : TopE p loose mg hb) (g : hb.Ns mainGlobals mg) (ns : List Str) (i : Nat) {x : String} (hN : (plainsOf p loose)[i]?.map (·.name) = some (Str.ofString x)) (hS : ((plainsOf p loose)[i]?.map fun c => ns.all fun y => c.statics.contains y) = some true)
    (hobj : ∀ y ∈ ns, typeLookup (.type "object") y = pure none) :
    ∃ C mC, GName hb x (.ref C) ∧ Cls ns hb C mC ∧ ∀ (q : Program) (a b j : Nat) (y : String) (ps : List String) (r : Option Value), (plM p loose i j).map (fun m => (m.name, m.body, m.scope, m.params)) = some (Str.ofString y, mthB q a b, mthS q a b, mthP q a b) → defLook (mthS q a b) (mthP q a b) ps = true →
      typeLookup (.type "object") (Str.ofString y) = pure r → MethN ns hb C y (mthS q a b) ps (mthB q a b) := by
  cases hc : (plainsOf p loose)[i]? with
  | none => rw [hc] at hN; cases hN
  | some c =>
    rw [hc] at hN hS
    obtain ⟨C, N, mN, h1, P⟩ := TE c (List.mem_of_getElem? hc)
    rw [show c.name = Str.ofString x from Option.some.inj hN] at h1
    have hst : ∀ y ∈ ns, mN y = none := fun y hy => P.quiet y (List.mem_append_right _ (List.mem_append_left _ (List.contains_iff_mem.mp (List.all_eq_true.mp (Option.some.inj hS) y hy))))
    have K : Cls ns hb C mN := ⟨⟨N, P.cls⟩, P.quiet _ (List.mem_append_left _ (.tail _ (.head _))), P.quiet _ (List.mem_append_left _ (.tail _ (.tail _ (.head _)))), P.quiet _ (List.mem_append_left _ (.head _)), hst, hobj⟩
    refine ⟨C, mN, .inl ⟨mg, g, h1⟩, K, fun q a b j y ps r hm hl ht => ?_⟩
    obtain ⟨hA, hnm, hk, hgen, hco, hon, hnd, hv⟩ := defLook_ok hl
    unfold plM at hm
    rw [hc, Option.bind_some] at hm
    obtain ⟨m, hj, hm⟩ := Option.map_eq_some_iff.mp hm
    obtain ⟨f, o, pm, cd, doc, g1, g2, g3, g4, g5⟩ := P.meths m (List.mem_of_getElem? hj)
    injection hm with e1 hm
    injection hm with e2 hm
    injection hm with e3 e4
    rw [e1] at g1
    refine ⟨mN, f, o, _, r, K, g1, g2, g3, g4, ht, ⟨o, _, (mthP q a b).args, g2, g4, ?_, hnm, ?_, e3, rfl, rfl, rfl, rfl, g5⟩, hk, hgen, hco, hon, hnd, hv⟩
    · show m.params = _
      rw [e4]; exact hA
    · rw [← e2]; rfl
theorem obj_store : ∀ y ∈ storeNames, typeLookup (.type "object") y = pure none := fun y hy => obj_attr y (List.mem_append_left _ hy)
theorem obj_val : ∀ y ∈ valNames, typeLookup (.type "object") y = pure none := fun y hy => obj_attr y (List.mem_append_right _ hy)
end

section
variable {prog : Program} {w : World} {Hz : List Addr} {hb : Heap} {n : Nat} {sc : Scope}
noncomputable def enumD (xs : List PyData) : List PyData := xs.zipIdx.map fun p => .tuple [.int p.2, p.1]
theorem enumD_get {xs : List PyData} {i : Nat} {x : PyData} (h : (enumD xs)[i]? = some x) : ∃ y, xs[i]? = some y ∧ x = .tuple [.int i, y] := by
  unfold enumD at h
  rw [List.getElem?_map, List.getElem?_zipIdx] at h
  cases e : xs[i]? with
  | none => rw [e] at h; exact no h
  | some y =>
    rw [e] at h
    simp at h
    exact ⟨y, rfl, h.symm⟩
theorem enumD_len (xs : List PyData) : (enumD xs).length = xs.length := by simp [enumD]
theorem Stream.enum {A : Around} (hh : A.handled = none) {elts : List Expr} {k : Nat} {pos : Pos} {e it l : Addr} (hei : e ≠ it) (hle : l ≠ e) (hli : l ≠ it) (xs : List PyData) (F : List Addr) :
    Stream prog w Hz A (.Tuple elts k pos) e (l :: F) [e, it] [] (enumD xs) (fun i h => (∃ old, IsEnum h e it i old) ∧ h.IsListIter it l i ∧ RD prog w Hz h (.ref l) (.list xs) (l :: F)) where
  frame := fun i h h' W st off hF hw => by
    obtain ⟨⟨old, he⟩, hit, rl⟩ := st
    refine ⟨⟨old, off _ _ he (.inl (hw e (.head _)))⟩, ?_, rl.off off hF⟩
    obtain ⟨o, ho, r⟩ := hit
    exact ⟨o, off _ _ ho (.inl (hw it (.tail _ (.head _)))), r⟩
  tups := fun _ _ _ _ q => nomatch q
  sub := fun _ q => nomatch q
  inert := fun i h st b hb' _ => by
    obtain ⟨⟨old, he⟩, ⟨o, ho, hc, hd⟩, rl⟩ := st
    rcases List.mem_cons.mp hb' with rfl | hb'
    · exact ⟨_, _, _, he, rfl, rfl⟩
    · rw [List.mem_singleton.mp hb']
      exact ⟨o, _, _, ho, hd, hc⟩
  alive := fun i h st => st.2.2.alive
  turn := fun i x s Q E hx st hal hQ => by
    obtain ⟨⟨old, he⟩, hit, rl⟩ := st
    obtain ⟨y, hy, rfl⟩ := enumD_get hx
    obtain ⟨_, _, _, _, q1, q2, a1, a2⟩ := rl.list_inv
    cases q1; cases q2
    · skip
      obtain ⟨v, cs, e1, e2, e3⟩ := a2.get hy
      refine wpAny_pyNext_enum_item he hit ⟨_, a1, rfl, _, rfl⟩ (by simpa using e1) hei fun h' ho hit' hT hsz hk => ?_
      refine wpAny_letOwnedTupleGo_enum ho fun h'' he' hs' => ?_
      have kp : ∀ b o, b ∉ [e, it] → s.heap.get? b = some o → h''.get? b = some o := fun b o hb' q => by
        simp only [List.mem_cons, List.not_mem_nil, or_false, not_or] at hb'
        exact (hs'.2 b hb'.1).trans (hk b o hb'.1 hb'.2 q)
      have K : Inert Hz s.heap h'' := Inert.of (Hz := Hz) (Zs := []) (wr := [e, it]) (fun b hb' _ => by
        rcases List.mem_cons.mp hb' with rfl | hb'
        · exact ⟨_, _, _, he, rfl, rfl⟩
        · rw [List.mem_singleton.mp hb']
          obtain ⟨o, ho, hc, hd⟩ := hit
          exact ⟨o, _, _, ho, hd, hc⟩) (fun _ q => nomatch q) kp
      have hTe : s.heap.objs.size ≠ e := Nat.ne_of_gt (Heap.lt_size he)
      have hTn : s.heap.objs.size ∉ Hz := fun q => by
        obtain ⟨o, eo⟩ := hal _ q
        exact absurd (Heap.lt_size eo) (Nat.lt_irrefl _)
      have r2 : RDs prog w Hz h'' [v] [y] (cs ++ []) := .cons (e2.inert K) .nil
      have r1 : RDs prog w Hz h'' [.int i s.toks, v] [.int i, y] (cs ++ []) := .cons (as := []) (.int _ _) r2
      have rT : RD prog w Hz h'' (.ref s.heap.objs.size) (.tuple [.int i, y]) (cs ++ []) := .tuple (n := 0) ((hs'.2 _ hTe).trans hT) hTn r1
      refine hQ _ (cs ++ []) h'' (s.toks + 1) rT (fun a ha => ?_) ⟨⟨v, by simpa using he'⟩, ?_, (RD.list a1 a2).inert K⟩ kp
      · rw [List.append_nil] at ha; exact .tail _ (e3 a ha)
      · exact hit'.at fun o q => (hs'.2 it (Ne.symm hei)).trans q
  done := fun s Q E st hQ => by
    obtain ⟨⟨old, he⟩, hit, rl⟩ := st
    obtain ⟨_, _, _, _, q1, q2, a1, a2⟩ := rl.list_inv
    cases q1; cases q2
    · skip
      rw [enumD_len] at he hit
      refine wpAny_pyNext_enum_end hh he hit ⟨_, a1, rfl, _, rfl⟩ (by simp [a2.length]) fun h' hx => hQ h' s.toks fun b o hb' q => hx b o (fun e' => hb' (by simp [e'])) q
  self := fun i s Q E st hQ => by
    obtain ⟨⟨old, he⟩, _⟩ := st
    exact wpAny_pyIter_enum he hQ
theorem wfs_enumD {xs : List PyData} (h : wfs xs = true) : wfs (enumD xs) = true := by
  rw [wfs_iff] at *
  intro x hx
  obtain ⟨i, hi⟩ := List.getElem?_of_mem hx
  obtain ⟨y, hy, rfl⟩ := enumD_get hi
  rw [wf_tuple]
  refine ⟨(by decide : 2 ≤ sizeLine), ?_⟩
  simp [wfs, wf, h y (List.mem_of_getElem? hy)]
theorem It.enum {elts : List Expr} {k : Nat} {tpos : Pos} {e : Expr} {np pos : Pos} {m : Rho → Option V} (hg : GName hb "enumerate" (.type "enumerate")) (h : Ev prog w hb n sc e m) (hx : isGlob sc "enumerate" = true) (he : ∀ env, starEach [e] env = [(false, eval e env)]) :
    It prog w hb n sc (.Tuple elts k tpos) (.Call (.Name (Str.ofString "enumerate") np) [e] [] pos) (fun ρ => (m ρ).bind fun v => (listOfD v.x).map fun xs => (enumD xs, v.fl)) := by
  refine ⟨fun _ _ => rfl, ?_⟩
  intro A Hz env s₀ X C ρ O s v Q E hs hA I
  refine bindI fun a ha hm hQ => ?_
  induction mapE hm with | mk xs hxs => ?_
  show wpAny _ _ (eval (.Name (Str.ofString "enumerate") np) env >>= fun f => callWith pos f [] (backTo pos (starEach [e] env)) []) _ _ s
  refine wpAny_bind (eval_glob I (by rw [hs]; exact hx) hg (callWith_ok (hb := hb) (.inr (.inl ⟨_, rfl⟩)) (by rw [he]; rfl) (wpAny_items_cons (h hs hA I ha fun u s₁ k₁ r₁ => wpAny_items_nil ⟨(I.grow k₁).base.grow, ?_⟩) (he env))))
  obtain ⟨as, ra, ca, oa⟩ := r₁
  rw [listOfD_some hxs] at ra ca
  induction ra.listI with | mk l vs kk bs a1 a2 => ?_
  rw [wf_list] at ca
  have hlt := Heap.lt_size a1
  refine call_enumerate_list ⟨_, a1, rfl, _, rfl⟩ fun h' g1 g2 g3 g4 => wpAny_pyIter_enum g1 ?_
  have fresh : ∀ d, s.heap.get? (s₁.heap.objs.size + d) = none := fun d => by
    cases e : s.heap.get? (s₁.heap.objs.size + d) with
    | none => rfl
    | some o => exact absurd (Heap.lt_size (keeps_grow k₁ _ _ e)) (Nat.not_lt.mpr (Nat.le_add_right _ _))
  refine hQ _ _ _ [] _ _ (keeps_trans k₁ ⟨h', s₁.toks, rfl, g4⟩) (Stream.enum hA.handled (l := l) (by simp) (Nat.ne_of_lt (Nat.lt_succ_of_lt hlt)) (Nat.ne_of_lt hlt) xs bs) ⟨⟨.none, g1⟩, g2, (RD.list a1 a2).grow g4⟩ oa (wfs_enumD ca.2) (by rw [enumD_len]; exact ca.1) fun b hb' => ?_
  rcases List.mem_cons.mp hb' with rfl | hb'
  · exact fresh 1
  · rw [List.mem_singleton.mp hb']; exact fresh 0
theorem storeD_inj {C Va p p' : Addr} {f f' : StF} (h : storeD C Va p f = storeD C Va p' f') : p = p' ∧ f = f' := by
  have e := congrArg (storeP C Va) h
  rw [storeP_store, storeP_store] at e
  have e := Option.some.inj e
  have e1 : (p : Int) = p' := congrArg Prod.fst e
  have e2 : stL f = stL f' := congrArg Prod.snd e
  obtain ⟨a1, a2, a3, a4, a5, a6⟩ := f
  obtain ⟨b1, b2, b3, b4, b5, b6⟩ := f'
  unfold stL at e2
  injection e2 with h1 e2
  injection e2 with h2 e2
  injection e2 with h3 e2
  injection e2 with h4 e2
  injection e2 with h5 e2
  injection e2 with h6 e2
  injection h2 with h2
  injection h5 with h5
  injection h6 with h6
  have g5 := (List.map_inj_right (fun x y q => by
    obtain ⟨x1, x2⟩ := x
    obtain ⟨y1, y2⟩ := y
    injection q with q
    injection q with q1 q
    injection q with q2 q
    injection q1 with q1
    injection q2 with q2
    exact Prod.ext q1 (Int.ofNat.inj q2))).mp h5
  have g6 := (List.map_inj_right (fun x y q => by
    obtain ⟨x1, x2⟩ := x
    obtain ⟨y1, y2⟩ := y
    injection q with q
    injection q with q1 q
    injection q with q2 q
    injection q1 with q1
    injection q2 with q2
    exact Prod.ext q1 q2)).mp h6
  clear h5 h6 h e e2
  dsimp only at h1 h2 h3 h4 g5 g6
  subst h1 h2 h3 h4 g5 g6
  exact ⟨Int.ofNat.inj e1, rfl⟩
open Classical in
noncomputable def asStore (C Va : Addr) (d : PyData) : Option (Addr × StF) := if h : ∃ q : Addr × StF, d = storeD C Va q.1 q.2 then some (Classical.choose h) else none
theorem asStore_some {C Va : Addr} {d : PyData} {q : Addr × StF} (h : asStore C Va d = some q) : d = storeD C Va q.1 q.2 := by
  unfold asStore at h
  split at h
  · rename_i e
    rw [← Option.some.inj h]; exact Classical.choose_spec e
  · exact no h
theorem asStore_store (C Va p : Addr) (f : StF) : asStore C Va (storeD C Va p f) = some (p, f) := by
  have e : ∃ q : Addr × StF, storeD C Va p f = storeD C Va q.1 q.2 := ⟨(p, f), rfl⟩
  unfold asStore
  rw [dif_pos e]
  obtain ⟨h1, h2⟩ := storeD_inj (Classical.choose_spec e)
  exact congrArg some (Prod.ext h1.symm h2.symm)
noncomputable def setN (l : List (Str × Nat)) (k : Str) (j : Nat) : List (Str × Nat) := if l.any (fun p => decide (p.1 = k)) then l.map (fun p => if p.1 = k then (p.1, j) else p) else l ++ [(k, j)]
noncomputable def lookN (l : List (Str × Nat)) (k : Str) : Option Nat := (l.find? fun p => decide (p.1 = k)).map (·.2)
section
variable {φ : Nat → Value}
theorem pairs_eq : ∀ {ks : List (Str × Value)} {l : List (Str × Nat)}, ks.map (·.1) = l.map (·.1) → ks.map (·.2) = l.map (fun q => φ q.2) → ks = l.map fun q => (q.1, φ q.2)
  | [], [], _, _ => rfl
  | [], _ :: _, h, _ => nomatch h
  | _ :: _, [], h, _ => nomatch h
  | a :: ks, b :: l, h, h' => by
    injection h with h1 h2
    injection h' with h3 h4
    rw [List.map_cons, ← pairs_eq h2 h4]
    congr 1
    exact Prod.ext h1 h3
theorem stored_map (l : List (Str × Nat)) (k : Str) (j : Nat) : stored (l.map fun q => (q.1, φ q.2)) k (φ j) = (setN l k j).map fun q => (q.1, φ q.2) := by
  unfold stored setN
  have e : (l.map fun q => (q.1, φ q.2)).any (fun kv => decide (kv.1 = k)) = l.any fun p => decide (p.1 = k) := by rw [List.any_map]; rfl
  rw [e]
  split
  · rw [List.map_map, List.map_map]
    refine List.map_congr_left fun q _ => ?_
    show (if q.1 = k then (q.1, φ j) else (q.1, φ q.2)) = ((if q.1 = k then (q.1, j) else q).1, φ (if q.1 = k then (q.1, j) else q).2)
    split <;> rfl
  · rw [List.map_append]; rfl
theorem valueAt_map (l : List (Str × Nat)) (k : Str) : valueAt (l.map fun q => (q.1, φ q.2)) k = (lookN l k).map φ := by
  unfold valueAt lookN
  rw [List.find?_map]
  show ((l.find? fun p => decide (p.1 = k)).map _).map _ = _
  cases (l.find? fun p => decide (p.1 = k)) <;> rfl
end
theorem lookN_mem {l : List (Str × Nat)} {k : Str} {j : Nat} (h : lookN l k = some j) : ∃ q ∈ l, q.2 = j := by
  obtain ⟨q, h1, h2⟩ := Option.map_eq_some_iff.mp h
  exact ⟨q, List.mem_of_find?_eq_some h1, h2⟩
theorem setN_mem {l : List (Str × Nat)} {k : Str} {j : Nat} {q : Str × Nat} (h : q ∈ setN l k j) : q ∈ l ∨ q.2 = j := by
  unfold setN at h
  split at h
  · obtain ⟨p, hp, rfl⟩ := List.mem_map.mp h
    split
    · exact .inr rfl
    · exact .inl hp
  · rcases List.mem_append.mp h with h | h
    · exact .inl h
    · rw [List.mem_singleton.mp h]; exact .inr rfl
theorem StoreAt.setHeld {h h' : Heap} {a dx C Va p hd : Addr} {pool : List (Addr × Addr)} {f : StF} {vs : List Value} {m : Str → Option Value} {ks : List (Str × Value)} (i : StoreAt prog w h a dx C Va p hd pool f vs m ks) {k : Str} {b db : Addr} {more : List (Addr × Addr)} {mw : List (Int × Int)} {j : Nat}
    (hj : (pool ++ more)[j]? = some (b, db)) (hd' : h'.DictOf (strKind prog w) hd (stored ks k (.ref b))) (hk : ∀ c ∈ footS a dx hd pool, c ≠ hd → ∀ o, h.get? c = some o → h'.get? c = some o) (nd : (footS a dx hd pool).Nodup)
    (hlen : more.length = mw.length) (hev : ∀ (i : Nat) (b db : Addr) (x y : Int), more[i]? = some (b, db) → mw[i]? = some (x, y) → ValAt h' Va b db x y) :
    StoreAt prog w h' a dx C Va p hd (pool ++ more) { f with held := setN f.held k j, worth := f.worth ++ mw } vs m (stored ks k (.ref b)) := by
  simp only [footS, List.nodup_cons, List.mem_cons, not_or] at nd
  have hpool : ∀ q ∈ f.held, (PySem.Value.ref (pool.getD q.2 (0, 0)).1) = .ref ((pool ++ more).getD q.2 (0, 0)).1 := fun q hq => by
    rw [List.getD_eq_getElem?_getD, List.getD_eq_getElem?_getD, List.getElem?_append_left (i.bound q hq)]
  have ek := pairs_eq (φ := fun r => .ref ((pool ++ more).getD r (0, 0)).1) i.keys (i.vals.trans (List.map_congr_left hpool))
  have es : stored ks k (.ref b) = (setN f.held k j).map fun q => (q.1, PySem.Value.ref ((pool ++ more).getD q.2 (0, 0)).1) := by
    rw [ek]
    refine Eq.trans ?_ (stored_map (φ := fun r => .ref ((pool ++ more).getD r (0, 0)).1) f.held k j)
    show _ = stored _ k (PySem.Value.ref ((pool ++ more).getD j (0, 0)).1)
    rw [show (pool ++ more).getD j (0, 0) = (b, db) by rw [List.getD_eq_getElem?_getD, hj]; rfl]
  have hlt := (List.getElem?_eq_some_iff.mp hj).1
  refine ⟨i.obj.kept (hk a (by simp [footS]) nd.1.2.1) (hk dx (by simp [footS]) nd.2.1.1), i.held, i.opened, i.plots, i.three, i.names, hd', i.mods, ?_, ?_, fun q hq => ?_, ?_, fun r b' db' x y e1 e2 => ?_⟩
  · rw [es, List.map_map]; rfl
  · rw [es, List.map_map]; rfl
  · rcases setN_mem hq with q' | q'
    · have := i.bound q q'
      rw [List.length_append]; lia
    · rw [q']; exact hlt
  · show (pool ++ more).length = (f.worth ++ mw).length
    rw [List.length_append, List.length_append, i.len, hlen]
  · by_cases hr : r < pool.length
    · rw [List.getElem?_append_left hr] at e1
      rw [List.getElem?_append_left (by rw [← i.len]; exact hr)] at e2
      refine (i.each r b' db' x y e1 e2).kept fun c hc => ?_
      have hm : c ∈ pool.flatMap fun q => [q.1, q.2] := List.mem_flatMap.mpr ⟨_, List.mem_of_getElem? e1, by simpa using hc⟩
      exact hk c (by simp only [footS, List.mem_cons]; exact .inr (.inr (.inr hm))) (fun q => nd.2.2.1 (q ▸ hm))
    · rw [List.getElem?_append_right (by lia)] at e1
      rw [List.getElem?_append_right (by rw [← i.len]; lia), ← i.len] at e2
      exact hev _ _ _ _ _ e1 e2
theorem pool_apart {c : Addr} : ∀ {pool : List (Addr × Addr)} {i j : Nat} {q r : Addr × Addr}, (pool.flatMap fun q => [q.1, q.2]).Nodup → pool[i]? = some q → pool[j]? = some r → i ≠ j → c ∈ [q.1, q.2] → c ∉ [r.1, r.2]
  | [], _, _, _, _, _, h, _, _, _ => by simp at h
  | z :: pool, i, j, q, r, nd, hi, hj, hn, hc => by
    rw [List.flatMap_cons, List.nodup_append] at nd
    cases i with
    | zero =>
      induction j with
      | zero => exact absurd rfl hn
      | succ j =>
        rw [List.getElem?_cons_zero] at hi; (have e := si hi; subst e; clear hi)
        rw [List.getElem?_cons_succ] at hj
        exact fun h => nd.2.2 c hc c (List.mem_flatMap.mpr ⟨r, List.mem_of_getElem? hj, h⟩) rfl
    | succ i =>
      rw [List.getElem?_cons_succ] at hi
      induction j with
      | zero =>
        rw [List.getElem?_cons_zero] at hj; (have e := si hj; subst e; clear hj)
        exact fun h => nd.2.2 c h c (List.mem_flatMap.mpr ⟨q, List.mem_of_getElem? hi, hc⟩) rfl
      | succ j =>
        rw [List.getElem?_cons_succ] at hj
        exact pool_apart nd.2.1 hi hj (fun e => hn (by rw [e])) hc
theorem StoreAt.setAmount {h h' : Heap} {a dx C Va p hd : Addr} {pool : List (Addr × Addr)} {f : StF} {vs : List Value} {m : Str → Option Value} {ks : List (Str × Value)} (i : StoreAt prog w h a dx C Va p hd pool f vs m ks) {b db : Addr} {j : Nat} {x' y : Int}
    (hj : pool[j]? = some (b, db)) (hv : ValAt h' Va b db x' y) (hk : ∀ c ∈ footS a dx hd pool, c ≠ b → c ≠ db → ∀ o, h.get? c = some o → h'.get? c = some o) (nd : (footS a dx hd pool).Nodup) :
    StoreAt prog w h' a dx C Va p hd pool { f with worth := f.worth.set j (x', y) } vs m ks := by
  simp only [footS, List.nodup_cons, List.mem_cons, not_or] at nd
  have hin : ∀ c, c = b ∨ c = db → c ∈ pool.flatMap fun q => [q.1, q.2] := fun c hc => List.mem_flatMap.mpr ⟨_, List.mem_of_getElem? hj, by simpa using hc⟩
  have ka : ∀ c, c ∈ footS a dx hd pool → c ∉ (pool.flatMap fun q => [q.1, q.2]) → ∀ o, h.get? c = some o → h'.get? c = some o := fun c hc hn => hk c hc (fun e => hn (hin c (.inl e))) (fun e => hn (hin c (.inr e)))
  refine ⟨i.obj.kept (ka a (by simp [footS]) nd.1.2.2) (ka dx (by simp [footS]) nd.2.1.2), i.held, i.opened, i.plots, i.three, i.names, ?_, i.mods, i.keys, i.vals, i.bound, ?_, fun r b' db' x y' e1 e2 => ?_⟩
  · obtain ⟨o, es, ep, ho, q⟩ := i.dict
    exact ⟨o, es, ep, ka hd (by simp [footS]) nd.2.2.1 o ho, q⟩
  · show pool.length = (f.worth.set j (x', y)).length
    rw [List.length_set, i.len]
  · have e2 : (f.worth.set j (x', y))[r]? = some (x, y') := e2
    rw [List.getElem?_set] at e2
    by_cases e : j = r
    · subst e
      rw [if_pos rfl] at e2
      split at e2
      · rw [hj] at e1
        cases e1; cases e2; exact hv
      · exact no e2
    · rw [if_neg e] at e2
      refine (i.each r b' db' x y' e1 e2).kept fun c hc => ?_
      have hm : c ∈ pool.flatMap fun q => [q.1, q.2] := List.mem_flatMap.mpr ⟨_, List.mem_of_getElem? e1, by simpa using hc⟩
      have hap := pool_apart nd.2.2.2 e1 hj (Ne.symm e) (c := c) hc
      simp only [List.mem_cons, List.not_mem_nil, or_false, not_or] at hap
      exact hk c (by simp only [footS, List.mem_cons]; exact .inr (.inr (.inr hm))) hap.1 hap.2
section
variable {A : Around} {E : Value → Shared → Prop} {s₀ s : Shared} {X C' : List Addr} {env : Env} {ρ : Rho} {O : List (String × List Addr)} {x : String} {ro : Option Addr} {C Va p ad dx hd : Addr} {mC : Str → Option Value} {f : StF} {pool : List (Addr × Addr)} {vs : List Value} {m : Str → Option Value} {ks : List (Str × Value)} {bs : List Addr}
variable (prog w Hz) in
inductive SHere (h : Heap) (C Va p : Addr) (f : StF) (o : Option (List Addr)) : Prop
  | mk (ad dx hd : Addr) (pool : List (Addr × Addr)) (vs : List Value) (m : Str → Option Value) (ks : List (Str × Value)) (bs : List Addr) (h1 : o = some (footS ad dx hd pool ++ bs)) (h2 : StoreAt prog w h ad dx C Va p hd pool f vs m ks) (h3 : RDs prog w Hz h vs [f.told, f.given, f.standing] bs) (h4 : (footS ad dx hd pool ++ bs).Nodup) (h5 : wf (storeD C Va p f) = true) : SHere h C Va p f o
theorem InS.storeHere (I : InS prog w Hz hb s₀ X env C' ρ O s) (hv : isVar env.scope x = true) (hx : ρ x = some (.own (.tree ro (storeD C Va p f)))) :
    SHere prog w Hz s.heap C Va p f (O.lookup x) := by
  have fin : ∀ u, RepVV prog w Hz s₀.heap (WW env C' O) O s.heap x u (.own (.tree ro (storeD C Va p f))) → SHere prog w Hz s.heap C Va p f (O.lookup x) := by
    rintro u ⟨sp, e, r⟩
    cases r with
    | tree q1 q2 q3 _ _ =>
      obtain ⟨a, dx, hd, p', pool, f', vs, m, ks, bs, _, h2, _, rfl, i, rs⟩ := q1.store_inv (storeP_store C Va p f)
      obtain ⟨rfl, rfl⟩ := storeD_inj h2
      exact ⟨a, dx, hd, pool, vs, m, ks, bs, e, i, rs, q2, q3⟩
  rcases isVar_kinds hv with q | q
  · obtain ⟨mm, _, hm⟩ := I.ns
    obtain ⟨u, _, r⟩ := hm x _ hx q
    exact fin u r
  · obtain ⟨c, u, _, _, r⟩ := I.cell x _ hx q
    exact fin u r
theorem InS.heldRef {Q : Value → Shared → Prop} {np tp : Pos} (I : InS prog w Hz hb s₀ X env C' ρ O s) (KC : Cls storeNames hb C mC) (hv : isVar env.scope x = true) (hx : ρ x = some (.own (.tree ro (storeD C Va p f)))) (hO : O.lookup x = some (footS ad dx hd pool ++ bs)) (i : StoreAt prog w s.heap ad dx C Va p hd pool f vs m ks)
    (hQ : ∀ s', Keeps s s' → s'.heap = s.heap → Q (.ref hd) s') : wpAny (model prog w) A (eval (.Attribute (.Name (Str.ofString x) np) (Str.ofString "held") tp) env) Q E s := by
  refine PyProof.Rows.Attribute_any_ (I.ownedT hv hx fun ad' as' hO' rt _ _ cn => ?_) (by with_unfolding_all rfl)
  rw [hO] at hO'
  (have e := si hO'; subst e; clear hO')
  obtain ⟨_, z⟩ := node_head rt cn
  obtain rfl : ad = ad' := (List.cons.inj z).1
  exact attr_get KC I.base.grow i.obj (by decide) i.held rfl hQ
theorem InS.heldVal {Q : Value → Shared → Prop} {np tp sp : Pos} {ix : Expr} {mi : Rho → Option V} {k : Str} {kf : Fl} {j : Nat} (I : InS prog w Hz hb s₀ X env C' ρ O s) (KC : Cls storeNames hb C mC) (hv : isVar env.scope x = true) (hx : ρ x = some (.own (.tree ro (storeD C Va p f)))) (hO : O.lookup x = some (footS ad dx hd pool ++ bs)) (i : StoreAt prog w s.heap ad dx C Va p hd pool f vs m ks)
    (hi : Ev prog w hb n sc ix mi) (hs : env.scope = sc) (hA : RoomF A n) (hk : mi ρ = some ⟨.str k, kf⟩) (hj : lookN f.held k = some j) (hsub : ∀ o j, ∃ ops, subscripted ix false o j = operate ops (getItem o j))
    (hQ : ∀ s', Keeps s s' → Q (.ref (pool.getD j (0, 0)).1) s') : wpAny (model prog w) A (eval (.Subscript (.Attribute (.Name (Str.ofString x) np) (Str.ofString "held") tp) ix sp) env) Q E s := by
  refine PyProof.Rows.Subscript_ (I.heldRef KC hv hx hO i fun s₁ k₁ _ => hi hs hA (I.grow k₁).toInF hk fun u' s₂ k₂ r₂ => ?_)
  obtain ⟨cs, rk, _, _⟩ := r₂
  have H := rk.strI; clear rk; induction H with | mk t => ?_
  have kk := keeps_trans k₁ k₂
  have i₂ := i.kept (h' := s₂.heap) fun c _ o eo => keeps_grow kk c o eo
  have hva : valueAt ks k = some (.ref (pool.getD j (0, 0)).1) := by
    rw [pairs_eq (φ := fun r => .ref (pool.getD r (0, 0)).1) i.keys i.vals]
    exact (valueAt_map (φ := fun r => .ref (pool.getD r (0, 0)).1) f.held k).trans (by rw [hj]; rfl)
  obtain ⟨ops, e⟩ := hsub (.ref hd) (.str k t)
  exact PyProof.Rows.tail_any i₂.dict.typeIs slot_dict_getitem.lookup (wpAny_getItem_of (strKey _ _) i₂.dict.mapOf hva (hQ _ (keeps_trans kk (keeps_toks s₂ _)))) e
end
theorem wf_heldL {l : List (Str × Nat)} : wf (.tuple (l.map fun q => .tuple [.str q.1, .int q.2])) = true ↔ l.length ≤ sizeLine ∧ ∀ q ∈ l, wf (.str q.1) = true := by
  have h2 : 2 ≤ sizeLine := by decide
  have key : ∀ l : List (Str × Nat), wfs (l.map fun q => .tuple [.str q.1, .int q.2]) = true ↔ ∀ q ∈ l, wf (.str q.1) = true := by
    intro l
    induction l with
    | nil => simp [wfs]
    | cons q l ih =>
      rw [List.map_cons, wfs, Bool.and_eq_true, ih, List.forall_mem_cons]
      refine and_congr_left fun _ => ?_
      simp [wf, wfs, h2]
  rw [wf, Bool.and_eq_true, decide_eq_true_eq, List.length_map, key]
theorem wf_worthL {l : List (Int × Int)} : wf (.tuple (l.map fun q => .tuple [.int q.1, .int q.2])) = true ↔ l.length ≤ sizeLine := by
  have h2 : 2 ≤ sizeLine := by decide
  simp only [wf, Bool.and_eq_true, decide_eq_true_eq, List.length_map]
  refine ⟨fun h => h.1, fun h => ⟨h, ?_⟩⟩
  clear h
  induction l with
  | nil => rfl
  | cons q l ih =>
    rw [List.map_cons, wfs, ih]
    simp [wf, wfs, h2]
theorem setN_len {l : List (Str × Nat)} {k : Str} {j : Nat} : (setN l k j).length ≤ l.length + 1 := by
  unfold setN
  split <;> simp
theorem wf_setN {l : List (Str × Nat)} {k : Str} {j : Nat} (h : wf (.tuple (l.map fun q => .tuple [.str q.1, .int q.2])) = true) (hk : wf (.str k) = true) (hl : l.length + 1 ≤ sizeLine) : wf (.tuple ((setN l k j).map fun q => .tuple [.str q.1, .int q.2])) = true := by
  rw [wf_heldL] at h ⊢
  refine ⟨Nat.le_trans setN_len hl, fun q hq => ?_⟩
  unfold setN at hq
  split at hq
  · obtain ⟨p, hp, rfl⟩ := List.mem_map.mp hq
    split <;> exact h.2 p hp
  · rcases List.mem_append.mp hq with hq | hq
    · exact h.2 q hq
    · rw [List.mem_singleton.mp hq]; exact hk
section
variable {A : Around} {E : Value → Shared → Prop} {s₀ s t : Shared} {X C' : List Addr} {env : Env} {ρ : Rho} {O : List (String × List Addr)} {x : String} {ro : Option Addr} {C Va p ad dx hd : Addr} {f : StF} {pool : List (Addr × Addr)} {vs : List Value} {m : Str → Option Value} {ks : List (Str × Value)} {bs : List Addr}
theorem InS.updStore {Q : Unit → Shared → Prop} {f' : StF} {more : List (Addr × Addr)} {h' : Heap} {tk : Nat} {m' : Str → Option Value} {ks' : List (Str × Value)} (I : InS prog w Hz hb s₀ X env C' ρ O s) (kt : Keeps s t) (hx : ρ x = some (.own (.tree ro (storeD C Va p f)))) (hO : O.lookup x = some (footS ad dx hd pool ++ bs)) (nd : (footS ad dx hd pool ++ bs).Nodup)
    (i : StoreAt prog w s.heap ad dx C Va p hd pool f vs m ks) (rs : RDs prog w Hz s.heap vs [f.told, f.given, f.standing] bs) (i' : StoreAt prog w h' ad dx C Va p hd (pool ++ more) f' vs m' ks') (h3 : [f'.told, f'.given, f'.standing] = [f.told, f.given, f.standing])
    (hall : ∀ c o, t.heap.get? c = some o → c ∉ footS ad dx hd pool → h'.get? c = some o) (hnew : ∀ c ∈ more.flatMap (fun q => [q.1, q.2]), s.heap.get? c = none) (hmn : (more.flatMap fun q => [q.1, q.2]).Nodup) (hw : wf (storeD C Va p f') = true)
    (hQ : ∀ O' s', InS prog w Hz hb s₀ X env C' (ρ.set x (.own (.tree ro (storeD C Va p f')))) O' s' → Step s.heap s'.heap (WW env C' O) (WW env C' O') → Q () s') : Q () { t with heap := h', toks := tk } := by
  have g := keeps_grow kt
  have nd' := List.nodup_append.mp nd
  have rs' : RDs prog w Hz h' vs [f'.told, f'.given, f'.standing] bs := by
    rw [h3]
    refine kept_both.2 (rs.grow g) fun c o eo q => hall c o eo fun hc => ?_
    rcases q with q | q
    · exact nd'.2.2 c hc c q rfl
    · obtain ⟨o', ho', nt⟩ := i.alive c hc
      rw [g c o' ho'] at eo; (have e := si eo; subst e; clear eo); exact nt q
  have rd' : RD prog w Hz h' (.ref ad) (storeD C Va p f') (footS ad dx hd (pool ++ more) ++ bs) := .store i' rs'
  have al := nontup_both.1 rd'
  have ee : footS ad dx hd (pool ++ more) ++ bs = footS ad dx hd pool ++ (more.flatMap (fun q => [q.1, q.2]) ++ bs) := by simp [footS]
  have hin : ∀ c ∈ footS ad dx hd (pool ++ more) ++ bs, c ∈ footS ad dx hd pool ++ bs ∨ s.heap.get? c = none := fun c hc => by
    rw [ee] at hc
    rcases List.mem_append.mp hc with hc | hc
    · exact .inl (List.mem_append_left _ hc)
    · rcases List.mem_append.mp hc with hc | hc
      · exact .inr (hnew c hc)
      · exact .inl (List.mem_append_right _ hc)
  have hs3 : ∀ c o, s.heap.get? c = some o → c ∉ footS ad dx hd pool ++ bs → h'.get? c = some o := fun c o eo q => hall c o (g c o eo) fun e => q (List.mem_append_left _ e)
  have ndn : (footS ad dx hd (pool ++ more) ++ bs).Nodup := by
    rw [ee, List.Perm.nodup_iff (List.perm_append_comm_assoc ..), List.nodup_append]
    refine ⟨hmn, nd, fun a ha b hb q => ?_⟩
    subst q
    obtain ⟨o, ho, _⟩ := I.walive a (own_sub hO hb)
    rw [hnew a ha] at ho; exact no ho
  have I' := I.updTree (tk := tk) hx hO hs3 (fun c hc => (al c (by
    rw [ee]
    rcases List.mem_append.mp hc with hc | hc
    · exact List.mem_append_left _ hc
    · exact List.mem_append_right _ (List.mem_append_right _ hc))).imp fun _ q => q.1) (fun c hc => ⟨hin c hc, al c hc⟩) ndn hw rfl (fun a' q => by
    obtain ⟨_, z1⟩ := node_head q rfl
    obtain rfl : ad = a' := (List.cons.inj z1).1
    exact rd')
  obtain ⟨h1, t1, rfl, _⟩ := kt
  exact hQ _ _ I' (tree_step hO hs3 hin)
theorem InS.putHeld {Q : Unit → Shared → Prop} {more : List (Addr × Addr)} {mw : List (Int × Int)} {b db : Addr} {j : Nat} {k : Str} {tk : Tok} (I : InS prog w Hz hb s₀ X env C' ρ O s) (kt : Keeps s t) (hx : ρ x = some (.own (.tree ro (storeD C Va p f)))) (hO : O.lookup x = some (footS ad dx hd pool ++ bs)) (nd : (footS ad dx hd pool ++ bs).Nodup)
    (i : StoreAt prog w s.heap ad dx C Va p hd pool f vs m ks) (rs : RDs prog w Hz s.heap vs [f.told, f.given, f.standing] bs) (hj : (pool ++ more)[j]? = some (b, db)) (hnew : ∀ c ∈ more.flatMap (fun q => [q.1, q.2]), s.heap.get? c = none) (hmn : (more.flatMap fun q => [q.1, q.2]).Nodup) (hml : more.length = mw.length)
    (hev : ∀ (i : Nat) (b db : Addr) (x y : Int), more[i]? = some (b, db) → mw[i]? = some (x, y) → ValAt t.heap Va b db x y) (ct : wf (storeD C Va p f) = true) (hk : wf (.str k) = true) (hsz : f.held.length + 1 ≤ sizeLine) (hwl : (f.worth ++ mw).length ≤ sizeLine)
    (hQ : ∀ O' s', InS prog w Hz hb s₀ X env C' (ρ.set x (.own (.tree ro (storeD C Va p { f with held := setN f.held k j, worth := f.worth ++ mw })))) O' s' → Step s.heap s'.heap (WW env C' O) (WW env C' O') → Q () s') : wpAny (model prog w) A (setItem (.ref hd) (.str k tk) (.ref b)) Q E t := by
  have g := keeps_grow kt
  have it := i.kept (h' := t.heap) fun c _ o eo => g c o eo
  have hlen : ks.length = f.held.length := by simpa using congrArg List.length i.keys
  refine wpAny_setItem_pairs (knd := strKind prog w) (strKey _ _) it.dict (fun h' hm' hs' => ?_) (by rw [hlen]; lia)
  have hall : ∀ c o, t.heap.get? c = some o → c ≠ hd → h'.get? c = some o := fun c o q hc => (hs'.2 c hc).trans q
  have hdin : hd ∈ footS ad dx hd pool := by simp [footS]
  have i' := it.setHeld hj hm' (fun c _ hc o q => hall c o q hc) (nd.sublist (List.sublist_append_left _ _)) hml (fun r b' db' x' y' e1 e2 => (hev r b' db' x' y' e1 e2).kept fun c hc o q => hall c o q fun e => by
    have hn := hnew c (List.mem_flatMap.mpr ⟨_, List.mem_of_getElem? e1, by simpa using hc⟩)
    obtain ⟨o', ho', _⟩ := i.alive hd hdin
    rw [e, ho'] at hn; cases hn)
  refine I.updStore kt hx hO nd i rs i' rfl (fun c o q hc => hall c o q fun e => hc (e ▸ hdin)) hnew hmn ?_ hQ
  rw [wf_store] at ct ⊢
  exact ⟨ct.1, ct.2.1, ct.2.2.1, wf_setN ct.2.2.2.1 hk hsz, wf_worthL.mpr hwl⟩
end
noncomputable def mHeldSame (C Va : Addr) (x : String) (mi mj : Rho → Option V) : Rho → Option Out := fun ρ => (treeOf ρ x).bind fun d => (asStore C Va d.2).bind fun q => (mj ρ).bind fun vj => (keyOf vj.x).bind fun kj => (lookN q.2.held kj).bind fun j => (mi ρ).bind fun vi => (keyOf vi.x).bind fun ki =>
  if q.2.held.length + 1 ≤ sizeLine then some (.next (ρ.set x (.own (.tree d.1 (storeD C Va q.1 { q.2 with held := setN q.2.held ki j }))))) else none
theorem S1.heldSame {C Va : Addr} {mC : Str → Option Value} {x : String} {ei ej : Expr} {n1 n2 t1 t2 p1 p2 pos : Pos} {mi mj : Rho → Option V} (KC : Cls storeNames hb C mC) (hi : Ev prog w hb n sc ei mi) (hj : Ev prog w hb n sc ej mj) (hv : isVar sc x = true)
    (hsub : ∀ o j, ∃ ops, subscripted ej false o j = operate ops (getItem o j))
    (hsw : ∀ env : Env, swapsWith (.Subscript (.Attribute (.Name (Str.ofString x) n2) (Str.ofString "held") t2) ej p2) (some (.Subscript (.Attribute (.Name (Str.ofString x) n1) (Str.ofString "held") t1) ei p1)) pos.line env = pure false := by intro _; rfl) :
    S1 prog w hb n sc (.Assign [.Subscript (.Attribute (.Name (Str.ofString x) n1) (Str.ofString "held") t1) ei p1] (.Subscript (.Attribute (.Name (Str.ofString x) n2) (Str.ofString "held") t2) ej p2) pos) (mHeldSame C Va x mi mj) := by
  intro A Hz env s₀ X C' ρ O s r Q E hs hA I
  refine bindI fun z0 hd => bindI fun z1 hq => bindI fun z2 hvj => bindI fun kj hkj => bindI fun j hl => bindI fun z5 hvi => bindI fun ki hki => ifI fun hsz hm hQ => ?_
  obtain ⟨ro, d⟩ := z0
  obtain ⟨p, f⟩ := z1
  obtain ⟨vj, fj⟩ := z2
  obtain ⟨vi, fi⟩ := z5
  · (have e := si hm; subst e; clear hm)
    have H := asStore_some hq; clear hq; subst H
    have H := keyOf_some hkj; clear hkj; subst H
    obtain rfl := keyOf_some hki
    have hx := treeOf_some hd
    dsimp only at hx hl hsz hQ
    have hv' : isVar env.scope x = true := by rw [hs]; exact hv
    obtain ⟨ad, dx, hdd, pool, vs, mm, ks, bs, hO, i, rs, nd, ct⟩ := I.storeHere hv' hx
    refine wpAny_Assign_Subscript (I.heldVal KC hv' hx hO i hj hs hA hvj hl hsub fun s₁ k₁ => (I.grow k₁).heldRef KC hv' hx hO (i.kept fun c _ o eo => keeps_grow k₁ c o eo) fun s₂ k₂ _ => hi hs hA ((I.grow k₁).grow k₂).toInF hvi fun ku s₃ k₃ r₃ => ?_) (hsw env)
    obtain ⟨cs, rk, ck, _⟩ := r₃
    have H := rk.strI; clear rk; induction H with | mk t => ?_
    obtain ⟨q, hq1, hq2⟩ := lookN_mem hl
    have hjl : j < pool.length := by rw [← hq2]; exact i.bound q hq1
    have hjp : pool[j]? = some pool[j] := List.getElem?_eq_getElem hjl
    rw [show (pool.getD j (0, 0)).1 = (pool[j]).1 by rw [List.getD_eq_getElem?_getD, hjp]; rfl]
    refine I.putHeld (more := []) (mw := []) (db := (pool[j]).2) (keeps_trans k₁ (keeps_trans k₂ k₃)) hx hO nd i rs (by rw [List.append_nil]; exact hjp) (fun _ q => nomatch q) List.nodup_nil rfl (fun _ _ _ _ _ q => by simp at q) ct ck hsz (by rw [List.append_nil]; exact wf_worthL.mp (wf_store.mp ct).2.2.2.2) fun O' s' I' T' => ?_
    rw [List.append_nil] at I'
    exact hQ O' s' I' T'
theorem mHeldSame_run {C Va p : Addr} {x : String} {mi mj : Rho → Option V} {ρ : Rho} {ro : Option Addr} {f : StF} {ki kj : Str} {fi fj : Fl} {j : Nat} (h1 : treeOf ρ x = some (ro, storeD C Va p f)) (h2 : mj ρ = some ⟨.str kj, fj⟩) (h3 : lookN f.held kj = some j) (h4 : mi ρ = some ⟨.str ki, fi⟩) (h5 : f.held.length + 1 ≤ sizeLine) :
    mHeldSame C Va x mi mj ρ = some (.next (ρ.set x (.own (.tree ro (storeD C Va p { f with held := setN f.held ki j }))))) := by
  unfold mHeldSame
  rw [h1, Option.bind_some, asStore_store, Option.bind_some, h2, Option.bind_some]
  show ((lookN f.held kj).bind fun j => (mi ρ).bind fun vi => (keyOf vi.x).bind fun ki => _) = _
  rw [h3, Option.bind_some, h4, Option.bind_some]
  exact if_pos h5
noncomputable def newV (Va : Addr) (q : Int × Int) : PyData := recD Va [] [(Str.ofString "amount", .int q.1), (Str.ofString "opening", .int q.2)]
theorem newV_inj {Va : Addr} {q q' : Int × Int} (h : newV Va q = newV Va q') : q = q' := by
  have e := congrArg (instP Va) h
  unfold newV at e
  rw [instP_rec, instP_rec] at e
  have e := congrArg Prod.snd (Option.some.inj e)
  injection e with e1 e
  injection e with e2 e
  have e1 := congrArg Prod.snd e1
  have e2 := congrArg Prod.snd e2
  injection e1 with e1
  injection e2 with e2
  exact Prod.ext e1 e2
open Classical in
noncomputable def asVal (Va : Addr) (d : PyData) : Option (Int × Int) := if h : ∃ q : Int × Int, d = newV Va q then some (Classical.choose h) else none
theorem asVal_some {Va : Addr} {d : PyData} {q : Int × Int} (h : asVal Va d = some q) : d = newV Va q := by
  unfold asVal at h
  split at h
  · rename_i e
    rw [← Option.some.inj h]; exact Classical.choose_spec e
  · exact no h
theorem asVal_val (Va : Addr) (q : Int × Int) : asVal Va (newV Va q) = some q := by
  have e : ∃ q' : Int × Int, newV Va q = newV Va q' := ⟨q, rfl⟩
  unfold asVal
  rw [dif_pos e]
  exact congrArg some (newV_inj (Classical.choose_spec e)).symm
theorem RD.toVal {h : Heap} {Va : Addr} {u : Value} {q : Int × Int} {as : List Addr} (r : RD prog w Hz h u (newV Va q) as) : ∃ b db, u = .ref b ∧ as = [b, db] ∧ ValAt h Va b db q.1 q.2 := by
  obtain ⟨a', dx, rs, gs, vs, m, bs, rfl, ex, rfl, _, i, _, e, nn, rr⟩ := r.inst_inv (instP_rec Va _ _)
  obtain ⟨rfl, rfl⟩ := rec_inj ex
  have H := rr.unI; clear rr; induction H with | mk v1 vs b1 c1 r1 rr1 => ?_
  have H := rr1.unI; clear rr1; induction H with | mk v2 vs b2 c2 r2 rr2 => ?_
  obtain ⟨rfl, rfl⟩ := rr2.nil_inv
  simp only [List.map_cons, List.map_nil, List.cons.injEq, and_true] at e
  induction r1.intI with | mk t1 => ?_
  induction r2.intI with | mk t2 => ?_
  obtain rfl := r1.flat_foot rfl
  obtain rfl := r2.flat_foot rfl
  refine ⟨a', dx, rfl, rfl, m, t1, t2, i, e.1, e.2, fun z hz => ?_⟩
  have := nn z hz
  simp only [List.map_cons, List.map_nil, List.nil_append, List.mem_cons, List.not_mem_nil, or_false] at this
  unfold valNames
  rcases this with rfl | rfl <;> decide
noncomputable def mHeldNew (C Va : Addr) (x : String) (mi : Rho → Option V) (mt : Rho → Option PyData) : Rho → Option Out := fun ρ => (treeOf ρ x).bind fun d => (asStore C Va d.2).bind fun q => (mt ρ).bind fun z => (asVal Va z).bind fun v => (mi ρ).bind fun vi => (keyOf vi.x).bind fun ki =>
  if q.2.held.length + 1 ≤ sizeLine ∧ q.2.worth.length + 1 ≤ sizeLine then some (.next (ρ.set x (.own (.tree d.1 (storeD C Va q.1 { q.2 with held := setN q.2.held ki q.2.worth.length, worth := q.2.worth ++ [v] }))))) else none
theorem S1.heldNew {C Va : Addr} {mC : Str → Option Value} {x : String} {ei e : Expr} {n1 t1 p1 pos : Pos} {mi : Rho → Option V} {mt : Rho → Option PyData} (KC : Cls storeNames hb C mC) (hi : Ev prog w hb n sc ei mi) (ht : EvT prog w hb n sc e mt) (hv : isVar sc x = true)
    (hsw : ∀ env : Env, swapsWith e (some (.Subscript (.Attribute (.Name (Str.ofString x) n1) (Str.ofString "held") t1) ei p1)) pos.line env = pure false := by intro _; rfl) :
    S1 prog w hb n sc (.Assign [.Subscript (.Attribute (.Name (Str.ofString x) n1) (Str.ofString "held") t1) ei p1] e pos) (mHeldNew C Va x mi mt) := by
  intro A Hz env s₀ X C' ρ O s r Q E hs hA I
  refine bindI fun z0 hd => bindI fun z1 hq => bindI fun z hz => bindI fun v hvz => bindI fun z4 hvi => bindI fun ki hki => ifI fun hsz hm hQ => ?_
  obtain ⟨ro, d⟩ := z0
  obtain ⟨p, f⟩ := z1
  obtain ⟨vi, fi⟩ := z4
  · (have e := si hm; subst e; clear hm)
    have H := asStore_some hq; clear hq; subst H
    have H := asVal_some hvz; clear hvz; subst H
    obtain rfl := keyOf_some hki
    have hx := treeOf_some hd
    dsimp only at hx hsz hQ
    have hv' : isVar env.scope x = true := by rw [hs]; exact hv
    obtain ⟨ad, dx, hdd, pool, vs, mm, ks, bs, hO, i, rs, nd, ct⟩ := I.storeHere hv' hx
    refine wpAny_Assign_Subscript (ht hs hA I.toInF hz fun u as s₁ k₁ rv ndv wfv fr => (I.grow k₁).heldRef KC hv' hx hO (i.kept fun c _ o eo => keeps_grow k₁ c o eo) fun s₂ k₂ _ => hi hs hA ((I.grow k₁).grow k₂).toInF hvi fun ku s₃ k₃ r₃ => ?_) (hsw env)
    obtain ⟨cs, rk, ck, _⟩ := r₃
    have H := rk.strI; clear rk; induction H with | mk t => ?_
    obtain ⟨b, db, rfl, rfl, va⟩ := rv.toVal
    have va' := va.kept (h' := s₃.heap) fun c _ o eo => keeps_grow (keeps_trans k₂ k₃) c o eo
    refine I.putHeld (more := [(b, db)]) (mw := [v]) (j := f.worth.length) (keeps_trans k₁ (keeps_trans k₂ k₃)) hx hO nd i rs (by rw [← i.len, List.getElem?_append_right (Nat.le_refl _), Nat.sub_self]; rfl) (fun c hc => fr c (by simpa using hc)) (by simpa using ndv) rfl (fun r b' db' x' y' e1 e2 => ?_) ct ck hsz.1 (by rw [List.length_append]; exact hsz.2) fun O' s' I' T' => hQ O' s' I' T'
    induction r with
    | zero => cases e1; (have e := si e2; subst e; clear e2); exact va'
    | succ r => simp at e1
theorem mHeldNew_run {C Va p : Addr} {x : String} {mi : Rho → Option V} {mt : Rho → Option PyData} {ρ : Rho} {ro : Option Addr} {f : StF} {ki : Str} {fi : Fl} {v : Int × Int} (h1 : treeOf ρ x = some (ro, storeD C Va p f)) (h2 : mt ρ = some (newV Va v)) (h4 : mi ρ = some ⟨.str ki, fi⟩) (h5 : f.held.length + 1 ≤ sizeLine) (h6 : f.worth.length + 1 ≤ sizeLine) :
    mHeldNew C Va x mi mt ρ = some (.next (ρ.set x (.own (.tree ro (storeD C Va p { f with held := setN f.held ki f.worth.length, worth := f.worth ++ [v] }))))) := by
  unfold mHeldNew
  rw [h1, Option.bind_some, asStore_store, Option.bind_some, h2, Option.bind_some, asVal_val, Option.bind_some, h4, Option.bind_some]
  exact if_pos ⟨h5, h6⟩
noncomputable def mHeldAdd (C Va : Addr) (x : String) (mi m : Rho → Option V) : Rho → Option Out := fun ρ => (treeOf ρ x).bind fun d => (asStore C Va d.2).bind fun q => (mi ρ).bind fun vi => (keyOf vi.x).bind fun ki => (lookN q.2.held ki).bind fun j => (q.2.worth[j]?).bind fun v => (m ρ).bind fun u => (intOf u.x).bind fun b =>
  some (.next (ρ.set x (.own (.tree d.1 (storeD C Va q.1 { q.2 with worth := q.2.worth.set j (v.1 + b, v.2) })))))
theorem S1.heldAdd {C Va : Addr} {mC mV : Str → Option Value} {x : String} {ei e : Expr} {n1 t1 p1 tp pos : Pos} {mi m : Rho → Option V} (KC : Cls storeNames hb C mC) (KV : Cls valNames hb Va mV) (hi : Ev prog w hb n sc ei mi) (h : Ev prog w hb n sc e m) (hv : isVar sc x = true)
    (hsub : ∀ o j, ∃ ops, subscripted ei false o j = operate ops (getItem o j)) :
    S1 prog w hb n sc (.AugAssign (.Attribute (.Subscript (.Attribute (.Name (Str.ofString x) n1) (Str.ofString "held") t1) ei p1) (Str.ofString "amount") tp) .Add e pos) (mHeldAdd C Va x mi m) := by
  intro A Hz env s₀ X C' ρ O s r Q E hs hA I
  refine bindI fun z0 hd => bindI fun z1 hq => bindI fun z2 hvi => bindI fun ki hki => bindI fun j hl => bindI fun v hvj => bindI fun u hu => bindI fun b hbb hm hQ => ?_
  obtain ⟨ro, d⟩ := z0
  obtain ⟨p, f⟩ := z1
  obtain ⟨vi, fi⟩ := z2
  (have e := si hm; subst e; clear hm)
  have H := asStore_some hq; clear hq; subst H
  obtain rfl := keyOf_some hki
  have hx := treeOf_some hd
  dsimp only at hx hl hQ hvj
  have hv' : isVar env.scope x = true := by rw [hs]; exact hv
  obtain ⟨ad, dx, hdd, pool, vs, mm, ks, bs, hO, i, rs, nd, ct⟩ := I.storeHere hv' hx
  obtain ⟨q, hq1, hq2⟩ := lookN_mem hl
  have hjl : j < pool.length := by rw [← hq2]; exact i.bound q hq1
  have hjp : pool[j]? = some pool[j] := List.getElem?_eq_getElem hjl
  refine wpAny_AugAssign_AttributeAny (I.heldVal KC hv' hx hO i hi hs hA hvi hl hsub fun s₁ k₁ => ?_)
  rw [show (pool.getD j (0, 0)).1 = (pool[j]).1 by rw [List.getD_eq_getElem?_getD, hjp]; rfl]
  generalize pool[j] = bb at hjp
  obtain ⟨ba, bd⟩ := bb
  have va := i.each j ba bd v.1 v.2 hjp hvj
  obtain ⟨mb, ta, tb, ib, a1, a2, a3⟩ := va.kept (h' := s₁.heap) fun c _ o eo => keeps_grow k₁ c o eo
  refine attr_get KV (I.grow k₁).base.grow ib (by decide) a1 rfl fun s₂ k₂ e₂ => h hs hA ((I.grow k₁).grow k₂).toInF hu fun u' s₃ k₃ r₃ => ?_
  obtain ⟨as2, rv, _, _⟩ := r₃
  rw [intOf_some hbb] at rv
  have H := rv.intI; clear rv; induction H with | mk t2 => ?_
  refine PySem.AutoIntOps.iadd_0 ?_
  have kk := keeps_trans k₁ (keeps_trans k₂ k₃)
  have g := keeps_grow kk
  have ib₃ := ib.kept (h' := s₃.heap) (fun o eo => keeps_grow (keeps_trans k₂ k₃) _ o eo) (fun o eo => keeps_grow (keeps_trans k₂ k₃) _ o eo)
  have hbin : ba ∈ footS ad dx hdd pool ∧ bd ∈ footS ad dx hdd pool := by
    have hm : ∀ c, c = ba ∨ c = bd → c ∈ footS ad dx hdd pool := fun c hc => by
      simp only [footS, List.mem_cons]
      exact .inr (.inr (.inr (List.mem_flatMap.mpr ⟨_, List.mem_of_getElem? hjp, by simpa using hc⟩)))
    exact ⟨hm _ (.inl rfl), hm _ (.inr rfl)⟩
  have hfr : hb.get? ba = none := (I.wfresh ba (own_sub hO (List.mem_append_left _ hbin.1))).1
  have kt := keeps_trans kk (keeps_toks s₃ (s₃.toks + 1))
  show wpAny _ _ (PySem.setAttr (.ref ba) (Str.ofString "amount") _) _ _ _
  refine attr_set KV (I.grow kk).base.grow ib₃ (by decide) a3 (by decide) hfr fun h' tk i' keep => ?_
  have i₃ := i.kept (h' := s₃.heap) fun c _ o eo => g c o eo
  have hv3 : ValAt h' Va ba bd (v.1 + b) v.2 := ⟨_, _, tb, i', if_pos rfl, (if_neg (by decide)).trans a2, fun z hz => by
    by_cases e : z = Str.ofString "amount"
    · rw [e]; decide
    · exact a3 z (fun q => hz ((if_neg e).trans q))⟩
  have i4 := i₃.setAmount hjp hv3 (fun c _ n1 n2 o eo => keep c o n1 n2 eo) (nd.sublist (List.sublist_append_left _ _))
  refine I.updStore (more := []) (f' := { f with worth := f.worth.set j (v.1 + b, v.2) }) (tk := tk) (Q := fun _ => Q .next) kt hx hO nd i rs (by rw [List.append_nil]; exact i4) rfl (fun c o q hc => keep c o (fun e => hc (e ▸ hbin.1)) (fun e => hc (e ▸ hbin.2)) q) (fun _ q => nomatch q) List.nodup_nil ?_ fun O' s' I' T' => hQ O' s' I' T'
  rw [wf_store] at ct ⊢
  exact ⟨ct.1, ct.2.1, ct.2.2.1, ct.2.2.2.1, wf_worthL.mpr (by rw [List.length_set]; exact wf_worthL.mp ct.2.2.2.2)⟩
theorem mHeldAdd_run {C Va p : Addr} {x : String} {mi m : Rho → Option V} {ρ : Rho} {ro : Option Addr} {f : StF} {ki : Str} {fi fu : Fl} {j : Nat} {v : Int × Int} {b : Int} (h1 : treeOf ρ x = some (ro, storeD C Va p f)) (h2 : mi ρ = some ⟨.str ki, fi⟩) (h3 : lookN f.held ki = some j) (h4 : f.worth[j]? = some v) (h5 : m ρ = some ⟨.int b, fu⟩) :
    mHeldAdd C Va x mi m ρ = some (.next (ρ.set x (.own (.tree ro (storeD C Va p { f with worth := f.worth.set j (v.1 + b, v.2) }))))) := by
  unfold mHeldAdd
  rw [h1, Option.bind_some, asStore_store, Option.bind_some, h2, Option.bind_some]
  show ((lookN f.held ki).bind fun j => (f.worth[j]?).bind fun v => (m ρ).bind fun u => (intOf u.x).bind fun b => _) = _
  rw [h3, Option.bind_some, h4, Option.bind_some, h5]; rfl
structure Walked (prog : Program) (w : World) (h₀ : Heap) (r : Addr) (T : String) (k : Nat) (P : Nat → Value → Prop) : Prop where
  ty : ∀ s : Shared, Grow h₀ s.heap → s.TypeIs (.ref r) T
  other : (Value.type T == .type "list") = false ∧ (Value.type T == .type "tuple") = false
  hint : ∀ (A : Around) (E : Value → Shared → Prop) (s : Shared) (Q : Bool → Shared → Prop), Grow h₀ s.heap → Q false s → wpAny (model prog w) A (Builtin.List.listLengthHint (.ref r)) Q E s
  iter : ∀ (A : Around) (s : Shared), A.handled = none → Grow h₀ s.heap → ∃ (o : Obj) (fp : List Addr) (St : Nat → Heap → Prop), (∀ (E Q : Value → Shared → Prop), Q (.ref s.heap.objs.size) { s with heap := s.heap.push o } → wpAny (model prog w) A (pyIter (.ref r)) Q E s) ∧
    Walks prog w A s.heap.objs.size fp [s.heap.objs.size] k P St ∧ St 0 (s.heap.push o) ∧ ∀ b ∈ fp, b = s.heap.objs.size ∨ ∃ o, h₀.get? b = some o
section
variable {A : Around} {E : Value → Shared → Prop} {s : Shared} {r S : Addr} {T : String} {k : Nat} {P : Nat → Value → Prop}
theorem Walked.extend {R : Result → Shared → Prop} {h₀ : Heap} (D : Walked prog w h₀ r T k P) (hh : A.handled = none) (g : Grow h₀ s.heap) (hr : ∃ o, h₀.get? r = some o) (hS₀ : h₀.get? S = none) (c : Nat) (hS : s.heap.get? S = some { cls := .type "list", data := .seq #[] c }) (hk : k ≤ sizeLine) (res : Value)
    (hR : ∀ h' tk acc c', (∀ b o, b ≠ S → s.heap.get? b = some o → h'.get? b = some o) → h'.get? S = some { cls := .type "list", dict := none, data := .seq acc c', slots := #[] } → ItemsOf P acc k → R (.ok (.ret res)) { s with heap := h', toks := tk }) :
    wpAny (model prog w) A.in1 (Builtin.List.listExtendWith (.ref S) (.ref r) res)
      (fun fin s' => match fin with | .done f => R (.ok f) s' | .again c' => c'.quiet = true ∧ codeAny (model prog w) A c' R s') (fun e s' => R (.error e) s') s := by
  obtain ⟨o, fp, St, it, W, st, hfp⟩ := D.iter A.in1 s hh g
  have new : S ∉ fp := fun q => by
    rcases hfp S q with q | ⟨o, q⟩
    · exact absurd (Heap.lt_size hS) (by rw [q]; exact Nat.lt_irrefl _)
    · rw [hS₀] at q; exact no q
  have apart : (Builtin.List.listSameRef (.ref S) (.ref r)) = false := by
    obtain ⟨o, q⟩ := hr
    have : S ≠ r := fun e => by rw [← e, hS₀] at q; exact no q
    simp [Builtin.List.listSameRef, this]
  -- the loop, from any heap that has grown but for S
  have loop : ∀ (h : Heap) (c₁ tk : Nat), St 0 h → (∀ b o, b ≠ S → s.heap.get? b = some o → h.get? b = some o) → h.get? S = some { cls := .type "list", data := .seq #[] c₁ } →
      codeAny (model prog w) A (.builtin "list.extend.loop" ⟨[.ref S, .ref s.heap.objs.size, res], []⟩) R { s with heap := h, toks := tk } := fun h c₁ tk q1 q2 q3 =>
    codeAny_extend_loopS W.toS hk S new res k 0 _ #[] c₁ rfl (Nat.zero_le _) q1 q3 (ItemsOf.nil _) fun s' acc c' m q4 q5 => by
      rw [Moved.eq_with m]
      refine hR _ _ acc c' (fun b o hb e => m.heap b o (fun q => ?_) (q2 b o hb e)) q4 q5
      rcases List.mem_cons.mp q with q | q
      · exact hb q
      · exact absurd (Heap.lt_size e) (by rw [List.mem_singleton.mp q]; exact Nat.lt_irrefl _)
  unfold Builtin.List.listExtendWith
  refine wpAny_bind (wpAny_typeOf (D.ty s g) ?_)
  simp only [apart, D.other.1, D.other.2, Bool.or_false, Bool.false_eq_true, if_false]
  have gp : Grow h₀ (s.heap.push o) := Grow.trans g (Grow.push _ _)
  have hS' := Heap.get?_push_of_some o hS
  refine wpAny_bind (it _ _ (wpAny_bind (wpAny_holding (D.hint _ _ _ _ gp ?_))))
  refine wpAny_ite_split (fun _ => wpAny_bind (wpAny_rule (wpAny_bind ?_))) (fun _ => wpAny_pure ⟨plainId_quiet PySem.F.plain_extend_loop _, loop _ c _ st (fun b o' _ e => Heap.get?_push_of_some _ e) hS'⟩)
  show wpAny _ _ (updateSeq S (·.push .none) >>= fun _ => updateSeq S (·.pop)) _ _ _
  refine wpAny_bind (wpAny_updateSeq hS' rfl ?_)
  have hS2 := Heap.get?_update_self (Obj.mapSeq (·.push Value.none)) hS' rfl
  refine wpAny_updateSeq (hz := by seq_fits) hS2 rfl ?_
  have off : ∀ b o', b ≠ S → (s.heap.push o).get? b = some o' → (((s.heap.push o).update S (Obj.mapSeq (·.push Value.none))).update S (Obj.mapSeq (·.pop))).get? b = some o' := fun b o' hb e =>
    (Heap.get?_update_other _ _ (Ne.symm hb)).trans ((Heap.get?_update_other _ _ (Ne.symm hb)).trans e)
  exact wpAny_pure ⟨plainId_quiet PySem.F.plain_extend_loop _, loop _ _ _ (W.frame 0 _ _ st fun b hb o' e => off b o' (fun q => new (q ▸ hb)) e) (fun b o' hb e => off b o' hb (Heap.get?_push_of_some _ e)) (Heap.get?_update_self (Obj.mapSeq (·.pop)) hS2 rfl)⟩
theorem Walked.call {Q : Value → Shared → Prop} (D : Walked prog w s.heap r T k P) (hh : A.handled = none) (hr : ∃ o, s.heap.get? r = some o) (hk : k ≤ sizeLine)
    (hQ : ∀ h' tk acc c', Grow s.heap h' → h'.get? s.heap.objs.size = some { cls := .type "list", dict := none, data := .seq acc c', slots := #[] } → ItemsOf P acc k → Q (.ref s.heap.objs.size) { s with heap := h', toks := tk }) :
    wpAny (model prog w) A (call (.type "list") [.ref r]) Q E s := by
  refine callType_codes (Q₁ := fun obj s₁ => obj = .ref s.heap.objs.size ∧ s₁ = { s with heap := s.heap.push { cls := .type "list", data := .seq #[] } }) PySem.F.called_list (PySem.F.typeCall_list_1 _) PySem.F.entry_list_init
    (code_list_new _ ⟨rfl, rfl⟩) fun obj s₁ h₁ => ?_
  obtain ⟨rfl, rfl⟩ := h₁
  have hS : (s.heap.push { cls := .type "list", data := .seq #[] }).get? s.heap.objs.size = some { cls := .type "list", data := .seq #[] } := Heap.get?_push_size _ rfl
  have old : ∀ b o, s.heap.get? b = some o → b ≠ s.heap.objs.size := fun b o e => Nat.ne_of_lt (Heap.lt_size e)
  refine ⟨⟨_, hS, rfl⟩, PySem.F.args_list_init_2 _ _, ?_⟩
  show wpAny _ _ (do let old ← Builtin.List.listItems (.ref s.heap.objs.size); Builtin.List.listUpdate (.ref s.heap.objs.size) (fun _ => #[]); letGo old.toList.reverse; Builtin.List.listExtendWith (.ref s.heap.objs.size) (.ref r) .none) _ _ _
  refine wpAny_bind ?_
  unfold Builtin.List.listItems
  refine wpAny_bind (wpAny_seqItems hS rfl (wpAny_pure ?_))
  show wpAny _ _ (updateSeq s.heap.objs.size (fun _ => #[]) >>= fun _ => letGo (#[] : Array Value).toList.reverse >>= fun _ => Builtin.List.listExtendWith (.ref s.heap.objs.size) (.ref r) .none) _ _ _
  refine wpAny_bind (wpAny_updateSeq hS rfl (wpAny_bind (wpAny_letGo ?_)))
  have g : Grow s.heap ((s.heap.push { cls := .type "list", data := .seq #[] }).update s.heap.objs.size (Obj.mapSeq (fun _ => (#[] : Array Value)))) := fun b o e =>
    (Heap.get?_update_other _ _ (Ne.symm (old b o e))).trans (Heap.get?_push_of_some _ e)
  exact D.extend (A := A.in1) hh g hr (get?_size_none _ (Nat.le_refl _)) _ (Heap.get?_update_self (Obj.mapSeq (fun _ => (#[] : Array Value))) hS rfl) hk .none fun h' tk acc c' kp q1 q2 => ⟨rfl, hQ h' tk acc c' (fun b o e => kp b o (old b o e) (g b o e)) q1 q2⟩
theorem Walked.dict {kvs : List (Str × Value)} {h : Heap} {d : Addr} {ep : Nat} (lo : (d == sysModules) = false) (hd : h.DictAt (strKind prog w) d kvs ep) :
    Walked prog w h d "dict" kvs.length (fun i v => ∃ k x, kvs[i]? = some (k, x) ∧ (strKind prog w).is k v = true) where
  ty := fun s g => (hd.at' fun o e => g _ _ e).dictOf.typeIs
  other := by decide
  hint := fun A E s Q g hq => by
    have hT : s.TypeIs (.ref d) "dict" := (hd.at' fun o e => g _ _ e).dictOf.typeIs
    unfold Builtin.List.listLengthHint
    refine wpAny_bind (wpAny_specialOf hT PySem.F.slot_dict_len.lookup ?_)
    generalize hid : ("dict.__len__" : String) = i
    wp_delta
    rw [show splitId i = some ("dict", "__len__") from by subst hid; decide +kernel]
    subst hid
    refine wpAny_bind (wpAny_isInstance (T := "dict") (b := true) hT (by rw [isSubtype_type]; kernel_rfl) ?_)
    refine wpAny_ite_split (fun q => absurd q (by decide)) fun _ => wpAny_ite_split (fun _ => wpAny_bind (wpAny_typeOf hT (wpAny_pure hq))) fun q => absurd (by decide +kernel) q
  iter := fun A s hh g => by
    have hm : s.heap.DictAt (strKind prog w) d kvs ep := hd.at' fun o e => g _ _ e
    refine ⟨_, _, _, fun E Q hq => wpAny_pyIter_dict lo hm hq, Walks.dictKeys hh _ d (Nat.ne_of_lt hm.lt_size) kvs ep, ⟨⟨_, Heap.get?_push_size _ rfl, rfl, rfl⟩, hm.push _⟩, fun b hb => ?_⟩
    rcases List.mem_cons.mp hb with rfl | hb
    · exact .inl rfl
    · obtain ⟨o, _, ho, _⟩ := hd
      exact .inr ⟨o, by rw [List.mem_singleton.mp hb]; exact ho⟩
theorem Walked.values {kvs : List (Str × Value)} {h : Heap} {v d : Addr} {ep : Nat} (hv : h.IsValuesView v d) (hd : h.DictAt (strKind prog w) d kvs ep) :
    Walked prog w h v "dict_values" kvs.length (fun i x => ∃ k, kvs[i]? = some (k, x)) where
  ty := fun s g => let ⟨o, ho, hc, _⟩ := hv; ⟨o, g _ _ ho, hc⟩
  other := by decide
  hint := fun A E s Q g hq => by
    have hT : s.TypeIs (.ref v) "dict_values" := let ⟨o, ho, hc, _⟩ := hv; ⟨o, g _ _ ho, hc⟩
    unfold Builtin.List.listLengthHint
    refine wpAny_bind (wpAny_specialOf hT PySem.F.slot_dict_values_len.lookup ?_)
    generalize hid : ("dict_values.__len__" : String) = i
    wp_delta
    rw [show splitId i = some ("dict_values", "__len__") from by subst hid; decide +kernel]
    subst hid
    refine wpAny_bind (wpAny_isInstance (T := "dict_values") (b := true) hT (by rw [isSubtype_type]; kernel_rfl) ?_)
    refine wpAny_ite_split (fun q => absurd q (by decide)) fun _ => wpAny_ite_split (fun _ => wpAny_bind (wpAny_typeOf hT (wpAny_pure hq))) fun q => absurd (by decide +kernel) q
  iter := fun A s hh g => by
    have hm : s.heap.DictAt (strKind prog w) d kvs ep := hd.at' fun o e => g _ _ e
    have hv' : s.heap.IsValuesView v d := let ⟨o, ho, r⟩ := hv; ⟨o, g _ _ ho, r⟩
    refine ⟨_, _, _, fun E Q hq => wpAny_pyIter_values hv' hm hq, Walks.dictValues hh _ d (Nat.ne_of_lt hm.lt_size) kvs ep, ⟨⟨_, Heap.get?_push_size _ rfl, rfl, rfl⟩, hm.push _⟩, fun b hb => ?_⟩
    rcases List.mem_cons.mp hb with rfl | hb
    · exact .inl rfl
    · obtain ⟨o, _, ho, _⟩ := hd
      exact .inr ⟨o, by rw [List.mem_singleton.mp hb]; exact ho⟩
end
theorem keys_rds {h : Heap} : ∀ {ys : List (Str × PyData)} {ks : List (Str × Value)} {vs : List Value}, ks.map (·.1) = ys.map (·.1) → vs.length = ks.length → (∀ (j : Nat) (v : Value), vs[j]? = some v → ∃ k x, ks[j]? = some (k, x) ∧ (strKind prog w).is k v = true) → RDs prog w Hz h vs (ys.map fun p => .str p.1) []
  | [], [], [], _, _, _ => .nil
  | [], [], _ :: _, _, e, _ => by simp at e
  | [], _ :: _, _, e, _, _ => by simp at e
  | _ :: _, [], _, e, _, _ => by simp at e
  | _ :: _, _ :: _, [], _, e, _ => by simp at e
  | y :: ys, k :: ks, v :: vs, e, l, h0 => by
    obtain ⟨e0, e1⟩ := List.cons.inj e
    dsimp only at e0
    obtain ⟨k', x, q1, q2⟩ := h0 0 v rfl
    (have e := si q1; subst e; clear q1)
    obtain ⟨t, rfl⟩ := Value.isStrOf_shape q2
    refine .cons (as := []) ?_ (keys_rds e1 (by simpa using l) fun j v hj => h0 (j + 1) v hj)
    show RD prog w Hz h (.str k' t) (.str y.1) []
    rw [← e0]; exact .str _ _
theorem CallOk.listD : CallOk prog w hb n (.type "list") (fun vs => match vs with | [v] => (dictOfD v.x).map fun kvs => ⟨.list (kvs.map (·.1)), .d⟩ | _ => none) := by
  intro A Hz env s₀ X C ρ O s us vs v Q E hA I r hm hQ
  dsimp only at hm
  split at hm
  · rename_i a
    induction mapE hm with | mk kvs h1 => ?_
    obtain ⟨_, rfl, r1⟩ := r.one_inv
    · skip
      obtain ⟨as, ra, ca, oa⟩ := r1
      obtain ⟨hd, hpk⟩ := dictOfD_some h1
      rw [hd] at ra ca
      have H := ra.dictI hpk; clear ra; induction H with | mk d ks ys bs b1 b2 b3 b4 => ?_
      obtain ⟨ep, hat⟩ := b1.dictAt
      have hlen : ks.length = ys.length := by simpa using congrArg List.length b3
      simp only [wf, Bool.and_eq_true, decide_eq_true_eq, List.length_map] at ca
      refine (Walked.dict (ep := ep) b2 hat).call hA.handled (let ⟨o, _, ho, _⟩ := hat; ⟨o, ho⟩) (by lia) fun h' tk acc c' hk hS hit => ?_
      have k : Keeps s { s with heap := h', toks := tk } := ⟨h', tk, rfl, hk⟩
      refine hQ _ _ k ⟨[s.heap.objs.size], ?_, ?_, ?_⟩
      · rw [List.map_map]
        exact .list (vs := acc.toList) (n := c') (by simpa using hS) (keys_rds b3 (by simpa using hit.1) fun j v hj => hit.2 j v (by simpa using hj))
      · rw [wf_list, List.map_map]
        refine ⟨by simp; lia, (wfs_iff _).mpr fun x hx => ?_⟩
        obtain ⟨q, hq, rfl⟩ := List.mem_map.mp hx
        exact (wfk_mem.mp ca.2 (.str q.1, q.2) (List.mem_map.mpr ⟨q, hq, rfl⟩)).1
      · intro c hc
        rw [List.mem_singleton.mp hc]
        exact I.fresh (get?_size_none _ (Nat.le_refl _))
  · exact no hm
theorem Ev.listD {es : List Expr} {np pos : Pos} {ms : Rho → Option (List V)} (B : Bui hb) (hes : Evs prog w hb n sc es ms) (hx : isGlob sc "list" = true)
    (hstar : ∀ env : Env, (backTo pos (starEach es env)).any (·.1) = false) :
    Ev prog w hb n sc (.Call (.Name (Str.ofString "list") np) es [] pos) (fun ρ => (ms ρ).bind fun vs => match vs with | [v] => (dictOfD v.x).map fun kvs => ⟨.list (kvs.map (·.1)), .d⟩ | _ => none) :=
  Ev.call hx B.list (.inr (.inl ⟨_, rfl⟩)) hes CallOk.listD hstar
theorem vals_eq {ks : List (Str × Value)} {vs : List Value} (hl : vs.length = ks.length) (h : ∀ (j : Nat) (v : Value), vs[j]? = some v → ∃ k, ks[j]? = some (k, v)) : vs = ks.map (·.2) := by
  refine List.ext_getElem? fun j => ?_
  rw [List.getElem?_map]
  cases e : vs[j]? with
  | some v => obtain ⟨k, hk⟩ := h j v e; rw [hk]; rfl
  | none =>
    rw [List.getElem?_eq_none_iff] at e
    rw [List.getElem?_eq_none (by lia)]; rfl
theorem Ev.listVals {o : Expr} {np apos cpos pos : Pos} {m : Rho → Option V} (B : Bui hb) (h : Ev prog w hb n sc o m) (hx : isGlob sc "list" = true)
    (hbase : ∀ env : Env, attributeBase o "values" env (eval o env) = eval o env) (hline : (apos.endLine == cpos.line) = true)
    (hstar : ∀ env : Env, (backTo pos (starEach [.Call (.Attribute o "values" apos) [] [] cpos] env)).any (·.1) = false) (he : ∀ env, starEach [.Call (.Attribute o "values" apos) [] [] cpos] env = (false, eval (.Call (.Attribute o "values" apos) [] [] cpos) env) :: starEach [] env) :
    Ev prog w hb n sc (.Call (.Name (Str.ofString "list") np) [.Call (.Attribute o "values" apos) [] [] cpos] [] pos) (fun ρ => (m ρ).bind fun v => (dictOfD v.x).bind fun kvs => if flats (kvs.map (·.2)) = true then some ⟨.list (kvs.map (·.2)), .d⟩ else none) := by
  intro A Hz env s₀ X C ρ O s v Q E hs hA I
  refine bindI fun v0 hv => bindI fun kvs h1 => ifI fun hfl hm hQ => ?_
  · (have e := si hm; subst e; clear hm)
    show wpAny _ _ (eval (.Name (Str.ofString "list") np) env >>= fun f => callWith pos f [] (backTo pos (starEach [.Call (.Attribute o "values" apos) [] [] cpos] env)) []) _ _ s
    refine wpAny_bind (eval_glob I (by rw [hs]; exact hx) B.list (callWith_ok (hb := hb) (.inr (.inl ⟨_, rfl⟩)) (hstar env) (wpAny_items_cons ?_ (he env))))
    refine wpAny_Call_method (T := "dict") (id := "dict.values") (hbase env) rfl hline F.plainAttrs_dict F.slot_dict_values F.type_dict_values (h hs hA I hv fun u s₁ k₁ r₁ => ?_)
    obtain ⟨as, ra, ca, oa⟩ := r₁
    obtain ⟨hd, hpk⟩ := dictOfD_some h1
    rw [hd] at ra ca
    have H := ra.dictI hpk; clear ra; induction H with | mk d ks ys bs b1 b2 b3 b4 => ?_
    refine ⟨b1.typeIs, b1.mapOf.noDict, ?_⟩
    show wpAny _ _ (callWith cpos (.builtin "dict.values") [.ref d] [] []) _ E s₁
    refine method_meetsIn F.slot_dict_values F.entry_dict_values rfl (evalArgs_none ⟨rfl, b1.typeIs, F.args_dict_values_1 _, _, meets_dict_values (strKind prog w) d b2, ⟨ks, b1⟩, ?_⟩)
    refine Calls.spliced_nil ⟨?_, ?_⟩
    · exact fun b o e => Heap.get?_push_of_some _ ((I.grow k₁).base.grow b o e)
    obtain ⟨ep, hat⟩ := b1.dictAt
    have hlen : ks.length = ys.length := by simpa using congrArg List.length b3
    simp only [wf, Bool.and_eq_true, decide_eq_true_eq, List.length_map] at ca
    have hview : (s₁.heap.push { cls := .type "dict_values", data := .fields #[.ref d] }).IsValuesView s₁.heap.objs.size d := ⟨_, Heap.get?_push_size _ rfl, rfl, rfl⟩
    refine (Walked.values (ep := ep) hview (hat.push _)).call hA.handled ⟨_, Heap.get?_push_size _ rfl⟩ (by lia) fun h' tk acc c' hk hS hit => ?_
    have k : Keeps s₁ { s₁ with heap := h', toks := tk } := ⟨h', tk, rfl, fun b o e => hk b o (Heap.get?_push_of_some _ e)⟩
    have hbs : bs = [] := b4.flat_foot (by rw [List.map_map] at hfl; exact hfl)
    subst hbs
    have hacc : acc.toList = ks.map (·.2) := vals_eq (by simpa using hit.1) fun j v hj => hit.2 j v (by simpa using hj)
    refine hQ _ _ (keeps_trans k₁ k) ⟨[(s₁.heap.push { cls := .type "dict_values", data := .fields #[.ref d] }).objs.size], ?_, ?_, ?_⟩
    · rw [List.map_map]
      exact .list (vs := acc.toList) (n := c') (by simpa using hS) (by rw [hacc]; exact b4.grow (keeps_grow k))
    · rw [wf_list, List.map_map]
      refine ⟨by simp; lia, (wfs_iff _).mpr fun x hx => ?_⟩
      obtain ⟨q, hq, rfl⟩ := List.mem_map.mp hx
      exact (wfk_mem.mp ca.2 (.str q.1, q.2) (List.mem_map.mpr ⟨q, hq, rfl⟩)).2
    · intro c hc
      rw [List.mem_singleton.mp hc]
      exact (I.grow k₁).fresh (get?_size_none _ (by simp))
theorem InitM.of {ns : List Str} {C : Addr} {ps : List String} {body : List Stmt} {m : Rho → Option Out} {spec : List PyData → Option PyData}
    (D : ∃ mC f fo fd r, Cls ns hb C mC ∧ mC (Str.ofString "__init__") = some (.ref f) ∧ hb.get? f = some fo ∧ fo.cls = .type "function" ∧ fo.data = .func fd ∧ typeLookup (.type "object") (Str.ofString "__init__") = pure r ∧ DefOk hb f sc ("self" :: ps) body)
    (h : St prog w hb n sc body m) (hm : ∀ a xs d', spec xs = some d' → procD ("self" :: ps) "self" m a xs = some d') : InitM prog w hb (n + 1) C ps spec := by
  obtain ⟨mC, f, fo, fd, r, h1, h2, h3, h4, _, _, h7⟩ := D
  exact ⟨⟨ns, mC, f, fo, h1, h2, h3, h4, FnM.def h7 (.head _) h hm⟩⟩
end

section
noncomputable abbrev pw : Program := PySem.Challenge.pw_uf010022_05
variable {w : World} {hb : Heap}
noncomputable def intsP (l : List Int) : List PyData := l.map .int
noncomputable def sAt (l : List Int) (k : Int) : Int := (l[k.toNat]?).getD 0
theorem ints_length (l : List Int) : (intsP l).length = l.length := by simp [intsP]
theorem at_ok (B : Bui hb) (D : DefAt hb "_law_at" (fnS pw 6) ["_law_script", "_law_k"] (fnB pw 6)) :
    ∃ m, DefG pw w hb 2 "_law_at" m ∧ ∀ (l : List Int) (k : Int), 0 ≤ k → m [.list (intsP l), .int k] = some (.int (sAt l k)) := by
  refine ⟨_, DefG.of D (n := 1) (St.cons (S1.if (Tr.cmp Ev.v (Ev.len B (Evs.cons Ev.v Evs.nil) (by decide +kernel) (by intro _; rfl))) (St.cons (S1.ret (Ev.idx Ev.v Ev.v))
      St.nil) St.nil)
    (St.cons (S1.ret Ev.cint)
    St.nil)) _ (fun _ _ h => h), ?_⟩
  intro l k hk
  refine fn_ret rfl ?_
  by_cases h : k < l.length
  · have e : seqAt (intsP l) k = some (.int (sAt l k)) := by
      rw [seqAt_nat hk]; unfold intsP sAt
      rw [List.getElem?_map, List.getElem?_eq_getElem (by omega)]; rfl
    refine seqRet (ifR_yes (by simp only [tst_eq, cond_true, cond_false, e_rho_nil, e_rho, e_fint, e_flist, e_rv, e_lt, e_len_l, String.reduceBEq, Option.bind_eq_bind, Option.bind_some, Option.map_some, ints_length, decide_eq_true h]) (seqRet ?_))
    simp only [run_eq, cond_true, cond_false, e_rho_nil, e_rho, e_fint, e_flist, e_rv, e_ret, String.reduceBEq, e_idx_l, Option.bind_eq_bind, Option.bind_some, e]
  · have e : sAt l k = 0 := by
      unfold sAt; rw [List.getElem?_eq_none (by omega)]; rfl
    refine seq (ifR_no (by simp only [tst_eq, cond_true, cond_false, e_rho_nil, e_rho, e_fint, e_flist, e_rv, e_lt, e_len_l, String.reduceBEq, Option.bind_eq_bind, Option.bind_some, Option.map_some, ints_length, decide_eq_false h]) rfl) (seqRet ?_)
    simp only [run_eq, e_ret, Option.bind_some, e]
end

section
variable {w : World} {hb : Heap}
noncomputable def turnS (c k : Int) : Int := c + 31 * k * (c % 2)
noncomputable def sizeS (c k : Int) (n : Nat) : Int := turnS c k / 26 % (9 - n)
noncomputable def tailS (c k : Int) (n : Nat) : List Nat := (List.range (sizeS c k n).toNat).map fun (j : Nat) => 97 + ((turnS c k + 5 * (j : Int) * (1 + turnS c k % 3)) % 26).toNat
noncomputable def cutS (c k : Int) (n : Nat) : Int := if c % 2 = 0 then c / 4 % (sizeS c k n + 1) else sizeS c k n
noncomputable def calledS (c k : Int) (s : List Nat) : List Nat := (tailS c k s.length).take (cutS c k s.length).toNat ++ s ++ (tailS c k s.length).drop (cutS c k s.length).toNat
theorem called_ok (B : Bui hb) (D : DefAt hb "_law_called" (fnS pw 7) ["_law_cell", "_law_k", "_law_signs"] (fnB pw 7)) :
    ∃ m, DefG pw w hb 2 "_law_called" m ∧ ∀ (c k : Int) (s : List Nat), 0 ≤ k → 1 ≤ s.length → s.length ≤ 8 → m [.int c, .int k, .str (S s)] = some (.str (S (calledS c k s))) := by
  refine ⟨_, DefG.of D (n := 1) (St.cons (S1.assign Ev.s (by decide +kernel))
    (St.cons (S1.assign (Ev.bin Ev.v (Ev.bin (Ev.bin Ev.cint Ev.v) (Ev.bin Ev.v Ev.cint))) (by decide +kernel))
    (St.cons (S1.assign (Ev.bin (Ev.bin Ev.v Ev.cint) (Ev.bin Ev.cint (Ev.len B (Evs.cons Ev.v Evs.nil) (by decide +kernel) (by intro _; rfl)))) (by decide +kernel))
    (St.cons (S1.assign (Ev.join (Ev.comp (locs := [".0", "_law_j"]) (by decide +kernel) (It.range (by decide +kernel) B.range Ev.v (by intro _; rfl)) (TgL.name (by decide +kernel) (by decide +kernel)) Ifs.nil (Ev.idx Ev.v (Ev.bin (Ev.bin Ev.v (Ev.bin (Ev.bin Ev.cint Ev.v) (Ev.bin Ev.cint (Ev.bin Ev.v Ev.cint)))) Ev.cint))) (by rfl) (by intro _; rfl)) (by decide +kernel))
    (St.cons (S1.assign Ev.v (by decide +kernel))
    (St.cons (S1.if (Tr.cmp (Ev.bin Ev.v Ev.cint) Ev.cint) (St.cons (S1.assign (Ev.bin (Ev.bin Ev.v Ev.cint) (Ev.bin Ev.v Ev.cint)) (by decide +kernel))
      St.nil) St.nil)
    (St.cons (S1.ret (Ev.bin (Ev.bin (Ev.slice Ev.v Pt.no (Pt.yes Ev.v) Pt.no (by intro _ _; exact ⟨_, rfl⟩)) Ev.v) (Ev.slice Ev.v (Pt.yes Ev.v) Pt.no Pt.no (by intro _ _; exact ⟨_, rfl⟩))))
    St.nil))))))) _ (fun _ _ h => h), ?_⟩
  intro c k s hk h1 h2
  refine fn_ret rfl ?_
  have hn : (0 : Int) < 9 - (s.length : Nat) := by omega
  have hz : 0 ≤ sizeS c k s.length ∧ sizeS c k s.length < 9 := ⟨Int.emod_nonneg _ (by omega), by have := Int.emod_lt_of_pos (turnS c k / 26) hn; unfold sizeS; omega⟩
  refine seq (by simp only [run_eq, e_putd, Option.bind_some, letters_eq]; rfl) ?_
  refine seq (by simp only [run_eq, e_add, e_mul_l, e_mod, e_set, cond_true, cond_false, e_rho_nil, e_rho, e_fint, e_fstr, e_rv, e_putd, String.reduceBEq, Option.bind_eq_bind, Option.bind_some, Int.reduceLT, Int.reduceNeg, e_mul (.inr (show smallInt (c % 2) = true from small_of (by omega) (by omega))), show c + 31 * k * (c % 2) = turnS c k from rfl]; rfl) ?_
  refine seq (by simp only [run_eq, e_sub, e_div, e_set, cond_true, cond_false, e_rho_nil, e_rho, e_fint, e_fstr, e_rv, e_putd, e_len_s, String.reduceBEq, S_length, Option.bind_eq_bind, Option.bind_some, Option.map_some, Int.reduceLT, e_mod hn, show turnS c k / 26 % (9 - (s.length : Int)) = sizeS c k s.length from rfl]; rfl) ?_
  have hj : aJoin (Str.ofString "") (List.map (fun j : Nat => PyData.str (S [97 + ((turnS c k + 5 * (j : Int) * (1 + turnS c k % 3)) % 26).toNat])) (List.range (sizeS c k s.length).toNat)) = some (.str (S (tailS c k s.length))) := by
    have e := join_ok (ts := (List.range (sizeS c k s.length).toNat).map fun j : Nat => [97 + ((turnS c k + 5 * (j : Int) * (1 + turnS c k % 3)) % 26).toNat]) (by rw [flat1]; simp; omega) (by simp; omega) (fun t ht x hx => by
      obtain ⟨j, _, rfl⟩ := List.mem_map.mp ht
      rw [List.mem_singleton.mp hx]; omega)
    rw [empty_eq]
    rw [List.map_map, flat1] at e
    exact e
  refine seq (by
    simp only [run_eq, e_set, cond_true, cond_false, e_rho_nil, e_rho, e_fint, e_fstr, e_rv, String.reduceBEq, Option.bind_eq_bind, Option.bind_some, if_true, and_self, Int.reducePow, Int.reduceNeg, compV, le_lineI (show sizeS c k s.length ≤ 1000 by omega), rng_lo hz.1]
    rw [comp_range (fun j => .str (S [97 + ((turnS c k + 5 * (j : Int) * (1 + turnS c k % 3)) % 26).toNat])) (fun j hj => by
      simp only [e_add, e_mul_l, e_mod, e_set, cond_true, cond_false, e_rho_nil, e_rho, e_fint, e_fstr, e_rv, e_putRd, e_inc, memS_nil, memS_cons, Bool.false_or, fix_d, String.reduceBEq, e_idx_s, Option.bind_some, Option.map_some, Option.bind_none, if_true, Int.reduceLT, Int.reduceNeg, cstep, e_mul (.inr (show smallInt (1 + turnS c k % 3) = true from small_of (by omega) (by omega))), letters_at (show 0 ≤ (turnS c k + 5 * (j : Int) * (1 + turnS c k % 3)) % 26 by omega) (show (turnS c k + 5 * (j : Int) * (1 + turnS c k % 3)) % 26 < 26 by omega)])]
    simp only [e_putd, Option.bind_some, Option.map_some, hj]
    rfl) ?_
  refine seq (by simp only [run_eq, e_set, cond_true, cond_false, e_rho_nil, e_rho, e_fint, e_fstr, e_rv, e_putd, String.reduceBEq, Option.bind_some]; rfl) ?_
  have hcut : 0 ≤ cutS c k s.length ∧ cutS c k s.length ≤ sizeS c k s.length := by
    unfold cutS; split
    · exact ⟨Int.emod_nonneg _ (by omega), by have := Int.emod_lt_of_pos (c / 4) (show 0 < sizeS c k s.length + 1 by omega); omega⟩
    · omega
  have hlen : ((tailS c k s.length).length : Int) = sizeS c k s.length := by simp [tailS]; omega
  have htl : (tailS c k s.length).length ≤ 8 := by omega
  have hd : calledS c k s = (tailS c k s.length).take (cutS c k s.length).toNat ++ s ++ (tailS c k s.length).drop (cutS c k s.length).toNat := rfl
  have e1 : clipHi (some (cutS c k s.length)) (tailS c k s.length).length = (cutS c k s.length).toNat := hi_some hcut.1 (by omega)
  have e2 : clipLo (some (cutS c k s.length)) (tailS c k s.length).length = (cutS c k s.length).toNat := lo_some hcut.1 (by omega)
  have e3 : aBinV .Add ⟨.str (S ((tailS c k s.length).take (cutS c k s.length).toNat)), .d⟩ ⟨.str (S s), .d⟩ = some ⟨.str (S ((tailS c k s.length).take (cutS c k s.length).toNat ++ s)), .d⟩ := e_addS (by simp; omega)
  have e4 : aBinV .Add ⟨.str (S ((tailS c k s.length).take (cutS c k s.length).toNat ++ s)), .d⟩ ⟨.str (S ((tailS c k s.length).drop (cutS c k s.length).toNat)), .d⟩ = some ⟨.str (S (calledS c k s)), .d⟩ := by
    rw [hd]; exact e_addS (by simp; omega)
  by_cases hc : c % 2 = 0
  · have ec : c / 4 % (sizeS c k s.length + 1) = cutS c k s.length := by unfold cutS; rw [if_pos hc]
    refine seq (by simp only [run_eq, e_add, e_div, e_mod, e_set, cond_true, cond_false, e_rho_nil, e_rho, e_fint, e_fstr, e_rv, e_putd, e_thn, e_eqi, String.reduceBEq, Option.bind_eq_bind, Option.bind_some, if_true, Int.reduceLT, Int.reduceBEq, hc, e_mod (show 0 < sizeS c k s.length + 1 by omega), ec]; rfl) ?_
    simp only [run_eq, e_set, cond_true, cond_false, e_rho_nil, e_rho, e_fint, e_fstr, e_rv, e_thr, e_ret, String.reduceBEq, e_sls, hi_none, lo_none, Option.bind_eq_bind, Option.bind_some, e1, e2, e3, e4, List.drop_zero, List.take_length]
  · have ec : sizeS c k s.length = cutS c k s.length := by unfold cutS; rw [if_neg hc]
    have hc' : (c % 2 == 0) = false := beq_eq_false_iff_ne.mpr hc
    refine seq (by simp only [run_eq, e_add, e_div, e_mod, e_set, cond_true, cond_false, e_rho_nil, e_rho, e_fint, e_fstr, e_rv, e_eqi, String.reduceBEq, Option.bind_eq_bind, Option.bind_some, if_false, Bool.false_eq_true, Int.reduceLT, hc']; rfl) ?_
    rw [ec]
    simp only [run_eq, e_set, cond_true, cond_false, e_rho_nil, e_rho, e_fint, e_fstr, e_rv, e_thr, e_ret, String.reduceBEq, e_sls, hi_none, lo_none, Option.bind_eq_bind, Option.bind_some, e1, e2, e3, e4, List.drop_zero, List.take_length]
noncomputable def manyS (l : List Int) : Int := if sAt l 0 / 4 % 8 = 1 then 12 - sAt l 0 / 32 % 8 else 1 + sAt l 0 % 4
noncomputable def pickS (l : List Int) (k : Nat) : Int := if sAt l 1 % 4 = 3 ∧ 0 < k then k - 1 else (sAt l 1 + 7 * k) * 48271 % 10007 % (k + 1)
noncomputable def nameS (l : List Int) (k : Nat) : List Nat := calledS (sAt l 1 / 3) k [97 + k]
noncomputable def outerS (l : List Int) (k : Nat) : Option (List Nat) := if pickS l k < k then some (nameS l (pickS l k).toNat) else none
noncomputable def optP : Option (List Nat) → PyData
  | none => .none
  | some n => .str (S n)
noncomputable def plotP (p : List Nat × Option (List Nat)) : PyData := .tuple [.str (S p.1), optP p.2]
noncomputable def plotS (l : List Int) (k : Nat) : List Nat × Option (List Nat) := (nameS l k, outerS l k)
noncomputable def plotsS (l : List Int) : List (List Nat × Option (List Nat)) := (List.range (manyS l).toNat).map (plotS l)
theorem flats_plot (p : List Nat × Option (List Nat)) : flats [.str (S p.1), optP p.2] = true := by
  cases h : p.2 <;> rfl
theorem fl_opt {o : Option (List Nat)} {xs : List PyData} : flats (optP o :: xs) = flats xs := by
  cases o <;> simp [optP, flats, flat]
theorem many_le (l : List Int) : 1 ≤ manyS l ∧ manyS l ≤ 12 := by unfold manyS; split <;> lia
theorem pick_le (l : List Int) (k : Nat) : 0 ≤ pickS l k ∧ pickS l k ≤ k := by
  unfold pickS; split
  · lia
  · have := Int.emod_lt_of_pos ((sAt l 1 + 7 * k) * 48271 % 10007) (show 0 < (k : Int) + 1 by lia)
    exact ⟨Int.emod_nonneg _ (by lia), by lia⟩
theorem twelve_eq : Str.ofString "abcdefghijkl" = S ((List.range 12).map (97 + ·)) := by decide +kernel
theorem plots_ok (B : Bui hb) (D : DefAt hb "_law_plots" (fnS pw 8) ["_law_script"] (fnB pw 8)) {m_at m_called : List PyData → Option PyData} (h_law_at : DefG pw w hb 2 "_law_at" m_at)
    (e_at : ∀ (l : List Int) (k : Int), 0 ≤ k → m_at [.list (intsP l), .int k] = some (.int (sAt l k))) (h_law_called : DefG pw w hb 2 "_law_called" m_called)
    (e_called : ∀ (c k : Int) (s : List Nat), 0 ≤ k → 1 ≤ s.length → s.length ≤ 8 → m_called [.int c, .int k, .str (S s)] = some (.str (S (calledS c k s)))) :
    ∃ m, DefG pw w hb 3 "_law_plots" m ∧ ∀ l : List Int, m [.list (intsP l)] = some (.list ((plotsS l).map plotP)) := by
  refine ⟨_, DefG.of D (n := 2) (St.cons (S1.assign (Ev.bin Ev.cint (Ev.bin (Ev.def h_law_at (Evs.cons Ev.v (Evs.cons Ev.cint Evs.nil)) (by decide +kernel) (by decide) (by intro _; rfl)) Ev.cint)) (by decide +kernel))
    (St.cons (S1.if (Tr.cmp (Ev.bin (Ev.bin (Ev.def h_law_at (Evs.cons Ev.v (Evs.cons Ev.cint Evs.nil)) (by decide +kernel) (by decide) (by intro _; rfl)) Ev.cint) Ev.cint) Ev.cint) (St.cons (S1.assign (Ev.bin Ev.cint (Ev.bin (Ev.bin (Ev.def h_law_at (Evs.cons Ev.v (Evs.cons Ev.cint Evs.nil)) (by decide +kernel) (by decide) (by intro _; rfl)) Ev.cint) Ev.cint)) (by decide +kernel))
      St.nil) St.nil)
    (St.cons (S1.ownList Evs.nil (by decide +kernel))
    (St.cons (S1.for (It.range (by decide +kernel) B.range Ev.v (by intro _; rfl)) (Tg.name (by decide +kernel)) (St.cons (S1.assign (Ev.bin (Ev.bin (Ev.bin (Ev.bin (Ev.def h_law_at (Evs.cons Ev.v (Evs.cons Ev.cint Evs.nil)) (by decide +kernel) (by decide) (by intro _; rfl)) (Ev.bin Ev.cint Ev.v)) Ev.cint) Ev.cint) (Ev.bin Ev.v Ev.cint)) (by decide +kernel))
      (St.cons (S1.if (Tr.all (Trs.consAnd (Tr.cmp (Ev.bin (Ev.def h_law_at (Evs.cons Ev.v (Evs.cons Ev.cint Evs.nil)) (by decide +kernel) (by decide) (by intro _; rfl)) Ev.cint) Ev.cint) (Trs.consAnd (Tr.cmp Ev.v Ev.cint) Trs.nilAnd))) (St.cons (S1.assign (Ev.bin Ev.v Ev.cint) (by decide +kernel))
        St.nil) St.nil)
      (St.cons (S1.assign Ev.cnone (by decide +kernel))
      (St.cons (S1.if (Tr.cmp Ev.v Ev.v) (St.cons (S1.assign (Ev.idx (Ev.idx Ev.v Ev.v) Ev.cint) (by decide +kernel))
        St.nil) St.nil)
      (St.cons (S1.append (Ev.tuple (Evs.cons (Ev.def h_law_called (Evs.cons (Ev.bin (Ev.def h_law_at (Evs.cons Ev.v (Evs.cons Ev.cint Evs.nil)) (by decide +kernel) (by decide) (by intro _; rfl)) Ev.cint) (Evs.cons Ev.v (Evs.cons (Ev.idx Ev.s Ev.v) Evs.nil))) (by decide +kernel) (by decide) (by intro _; rfl)) (Evs.cons Ev.v Evs.nil))) (by decide +kernel) (by intro _; rfl) (by rfl) (by intro env h; unfold interactive; rw [h]; rfl))
      St.nil))))))
    (St.cons (S1.retOwn (by decide +kernel))
    St.nil))))) _ (fun _ _ h => h), ?_⟩
  intro l
  have a0 := e_at l 0 (by decide)
  have a1 := e_at l 1 (by decide)
  have hmany := many_le l
  refine fn_ret rfl ?_
  refine seq (by simp only [run_eq, e_add, e_mod, cond_true, e_rho_nil, e_rho, e_flist, e_rv, e_putd, String.reduceBEq, Option.bind_eq_bind, Option.bind_some, Option.map_some, List.map_cons, List.map_nil, Int.reduceLT, a0]; rfl) ?_
  refine seqE (fun ρ => ρ "_law_many" = some (.val ⟨.int (manyS l), .d⟩) ∧ ρ "_law_script" = some (.val ⟨.list (intsP l), .s⟩)) ?_ ?_
  · by_cases h0 : sAt l 0 / 4 % 8 = 1
    · have hv : manyS l = 12 - sAt l 0 / 32 % 8 := if_pos h0
      exact ⟨_, by simp only [run_eq, e_sub, e_div, e_mod, e_set, cond_true, cond_false, e_rho_nil, e_rho, e_flist, e_rv, e_putd, e_thn, e_eqi, String.reduceBEq, Option.bind_eq_bind, Option.bind_some, Option.map_some, if_true, List.map_cons, List.map_nil, Int.reduceLT, Int.reduceBEq, a0, h0]; rfl, by simp only [e_set, cond_true, cond_false, e_rho_nil, e_rho, e_flist, String.reduceBEq, hv], by simp only [e_set, cond_true, cond_false, e_rho_nil, e_rho, e_flist, String.reduceBEq]⟩
    · have hv : manyS l = 1 + sAt l 0 % 4 := if_neg h0
      have h0' : (sAt l 0 / 4 % 8 == 1) = false := beq_eq_false_iff_ne.mpr h0
      exact ⟨_, by simp only [run_eq, e_sub, e_div, e_mod, e_set, cond_true, cond_false, e_rho_nil, e_rho, e_flist, e_rv, e_putd, e_thn, e_eqi, String.reduceBEq, Option.bind_eq_bind, Option.bind_some, Option.map_some, if_false, Bool.false_eq_true, List.map_cons, List.map_nil, Int.reduceLT, a0, h0']; rfl, by simp only [e_set, cond_true, cond_false, e_rho_nil, e_rho, e_flist, String.reduceBEq, hv], by simp only [e_set, cond_true, cond_false, e_rho_nil, e_rho, e_flist, String.reduceBEq]⟩
  rintro ρ ⟨hm, hs⟩
  refine seq (by simp only [run_eq, le_line, fls_nil, Option.bind_some, if_true, List.map_nil, List.length_nil, and_self, Nat.reduceLeDiff]; rfl) ?_
  refine seqE (fun ρ => ρ "_law_plots_here" = some (.own (.lst ((plotsS l).map plotP)))) ?_ ?_
  · refine for_run (rangeOf (manyS l)) .d (by simp only [itr_eq, e_set, cond_false, e_rv, String.reduceBEq, Option.bind_some, if_true, and_self, Int.reducePow, Int.reduceNeg, hm, le_lineI (show manyS l ≤ 1000 by lia), rng_lo (show 0 ≤ manyS l by lia)]) (by decide) ?_
    refine (forD_inv' (fun i ρ => ρ "_law_plots_here" = some (.own (.lst (((List.range i).map (plotS l)).map plotP))) ∧ ρ "_law_script" = some (.val ⟨.list (intsP l), .s⟩)) ⟨by simp only [e_set, cond_true, String.reduceBEq]; rfl, by simp only [e_set, cond_false, String.reduceBEq, hs]⟩ ?_).imp fun ρ' h => ⟨h.1, ?_⟩
    · intro i x ρ hx ⟨hp, hs⟩
      obtain ⟨hi, rfl⟩ := rangeOf_get hx
      refine ⟨_, by simp only [e_putRd, fix_d]; rfl, ?_⟩
      have hpk := pick_le l i
      refine seqN (by simp only [run_eq, e_add, e_mul_l, e_mul_r, e_mod, e_set, cond_true, cond_false, e_rv, e_putd, String.reduceBEq, Option.bind_eq_bind, Option.bind_some, Option.map_some, List.map_cons, List.map_nil, Int.reduceLT, Int.reduceNeg, hs, a1, e_mod (show 0 < (i : Int) + 1 by lia)]; rfl) ?_
      refine seqX (fun ρ => ρ "_law_pick" = some (.val ⟨.int (pickS l i), .d⟩) ∧ ρ "_law_k" = some (.val ⟨.int i, .d⟩) ∧ ρ "_law_plots_here" = some (.own (.lst (((List.range i).map (plotS l)).map plotP))) ∧ ρ "_law_script" = some (.val ⟨.list (intsP l), .s⟩)) ?_ ?_
      · by_cases h3 : sAt l 1 % 4 = 3
        · by_cases hk : (i : Int) > 0
          · have hv : pickS l i = i - 1 := if_pos ⟨h3, by lia⟩
            exact ⟨_, by simp only [run_eq, e_sub, e_mod, e_set, cond_true, cond_false, e_rv, e_putd, e_thn, e_gt, e_eqi, String.reduceBEq, Option.bind_eq_bind, Option.bind_some, Option.map_some, if_true, List.map_cons, List.map_nil, Int.reduceLT, Int.reduceBEq, hs, a1, h3, decide_eq_true hk]; rfl, by simp only [e_set, cond_true, cond_false, String.reduceBEq, hv], by simp only [e_set, cond_true, cond_false, String.reduceBEq], by simp only [e_set, cond_false, String.reduceBEq, hp], by simp only [e_set, cond_false, String.reduceBEq, hs]⟩
          · have hv : pickS l i = (sAt l 1 + 7 * i) * 48271 % 10007 % (i + 1) := if_neg fun h => hk (by lia)
            exact ⟨_, by simp only [run_eq, e_sub, e_mod, e_set, cond_true, cond_false, e_rv, e_putd, e_thn, e_gt, e_eqi, String.reduceBEq, Option.bind_eq_bind, Option.bind_some, Option.map_some, if_true, if_false, Bool.false_eq_true, List.map_cons, List.map_nil, Int.reduceLT, Int.reduceBEq, hs, a1, h3, decide_eq_false hk]; rfl, by simp only [e_set, cond_true, cond_false, String.reduceBEq, hv], by simp only [e_set, cond_true, cond_false, String.reduceBEq], by simp only [e_set, cond_false, String.reduceBEq, hp], by simp only [e_set, cond_false, String.reduceBEq, hs]⟩
        · have hv : pickS l i = (sAt l 1 + 7 * i) * 48271 % 10007 % (i + 1) := if_neg fun h => h3 h.1
          have h3' : (sAt l 1 % 4 == 3) = false := beq_eq_false_iff_ne.mpr h3
          exact ⟨_, by simp only [run_eq, e_sub, e_mod, e_set, cond_true, cond_false, e_rv, e_putd, e_thn, e_gt, e_eqi, String.reduceBEq, Option.bind_eq_bind, Option.bind_some, Option.map_some, if_false, Bool.false_eq_true, decide_eq_true_eq, List.map_cons, List.map_nil, Int.reduceLT, hs, a1, h3']; rfl, by simp only [e_set, cond_true, cond_false, String.reduceBEq, hv], by simp only [e_set, cond_true, cond_false, String.reduceBEq], by simp only [e_set, cond_false, String.reduceBEq, hp], by simp only [e_set, cond_false, String.reduceBEq, hs]⟩
      rintro ρ ⟨h1, h2, h3, h4⟩
      refine seqN (by simp only [run_eq, e_putd, Option.bind_some]; rfl) ?_
      refine seqX (fun ρ => ρ "_law_outer" = some (.val ⟨optP (outerS l i), .d⟩) ∧ ρ "_law_k" = some (.val ⟨.int i, .d⟩) ∧ ρ "_law_plots_here" = some (.own (.lst (((List.range i).map (plotS l)).map plotP))) ∧ ρ "_law_script" = some (.val ⟨.list (intsP l), .s⟩)) ?_ ?_
      · by_cases hlt : pickS l i < i
        · have hv : outerS l i = some (nameS l (pickS l i).toNat) := if_pos hlt
          have hg : seqAt (((List.range i).map (plotS l)).map plotP) (pickS l i) = some (plotP (plotS l (pickS l i).toNat)) := by
            rw [seqAt_nat hpk.1, List.getElem?_map, map_range_get _ (by lia)]; rfl
          have hg0 : seqAt [PyData.str (S (plotS l (pickS l i).toNat).1), optP (plotS l (pickS l i).toNat).2] 0 = some (.str (S (nameS l (pickS l i).toNat))) := rfl
          refine ⟨_, by simp only [run_eq, e_set, cond_false, e_ftup, e_rv, e_rl, e_putd, e_thn, e_lt, fix_d, fl_nil, fl_str, String.reduceBEq, e_idx_l, e_idx_t, Option.bind_eq_bind, Option.bind_some, if_true, h1, h2, h3, decide_eq_true hlt, hg, plotP, fl_opt, hg0]; rfl, by simp only [e_set, cond_true, String.reduceBEq, hv, optP], by simp only [e_set, cond_false, String.reduceBEq, h2], by simp only [e_set, cond_false, String.reduceBEq, h3], by simp only [e_set, cond_false, String.reduceBEq, h4]⟩
        · have hv : outerS l i = none := if_neg hlt
          exact ⟨_, by simp only [run_eq, e_set, cond_false, e_rv, e_lt, String.reduceBEq, Option.bind_eq_bind, Option.bind_some, if_false, Bool.false_eq_true, h1, h2, decide_eq_false hlt]; rfl, by simp only [e_set, cond_true, String.reduceBEq, hv, optP], by simp only [e_set, cond_false, String.reduceBEq, h2], by simp only [e_set, cond_false, String.reduceBEq, h3], by simp only [e_set, cond_false, String.reduceBEq, h4]⟩
      rintro ρ ⟨h1, h2, h3, h4⟩
      have hi12 : i < 12 := by lia
      have ht : seqAt ((List.range 12).map (97 + ·)) (i : Int) = some (97 + i) := by rw [seqAt_nat (by lia)]; exact map_range_get _ (by lia)
      have hc := e_called (sAt l 1 / 3) i [97 + i] (by lia) (by simp) (by simp)
      have hlen : (((List.range i).map (plotS l)).map plotP).length + 1 ≤ sizeLine := le_line (by simp; lia)
      refine seqN (by simp only [run_eq, e_div, e_rv, fix_d, e_idx_s, le_line, fls_nil, fls_d, Option.bind_eq_bind, Option.bind_some, Option.map_some, if_true, List.map_cons, List.map_nil, List.length_cons, List.length_nil, and_true, Int.reduceLT, Nat.reduceAdd, Nat.reduceLeDiff, h1, h2, h3, h4, a1, twelve_eq, ht, hc, hlen]; rfl) ?_
      refine doneN ⟨?_, by simp only [e_set, cond_false, String.reduceBEq, h4]⟩
      simp only [e_set, cond_true, String.reduceBEq, List.map_cons, List.map_nil, range_snoc, List.map_append]
      rfl
    · rw [h.2.1, rangeOf_len]; rfl
  · intro ρ hp
    simp only [run_eq, e_thr, Option.bind_some, hp]
noncomputable def nmanyS (l : List Int) : Int := if sAt l 2 / 5 % 16 = 3 then 60 else 1 + sAt l 2 % 5
noncomputable def signS (k : Nat) : List Nat := [97 + k / 26, 122 - k % 26]
noncomputable abbrev strP (n : List Nat) : PyData := .str (S n)
noncomputable def namesS (l : List Int) (ps : List (List Nat × Option (List Nat))) : List (List Nat) :=
  if sAt l 2 / 5 % 4 = 1 then (ps.map (·.1)).take (nmanyS l).toNat else (List.range (nmanyS l).toNat).map fun (k : Nat) => calledS (sAt l 2 / 80) k (signS k)
theorem nmany_le (l : List Int) : 1 ≤ nmanyS l ∧ nmanyS l ≤ 60 := by unfold nmanyS; split <;> lia
theorem abc_eq : Str.ofString "abc" = S [97, 98, 99] := by decide +kernel
theorem ends_eq : Str.ofString "zyxwvutsrqponmlkjihgfedcba" = S ((List.range 26).map (122 - ·)) := by decide +kernel
theorem abc_at {k : Nat} (h : k < 78) : seqAt [97, 98, 99] ((k : Int) / 26) = some (97 + k / 26) := by
  rw [seqAt_nat (by lia), show ((k : Int) / 26).toNat = k / 26 by lia]
  have : k / 26 < 3 := by lia
  generalize k / 26 = j at this
  match j, this with
  | 0, _ => rfl
  | 1, _ => rfl
  | 2, _ => rfl
theorem ends_at (k : Nat) : seqAt ((List.range 26).map (122 - ·)) ((k : Int) % 26) = some (122 - k % 26) := by
  rw [seqAt_nat (by lia), show ((k : Int) % 26).toNat = k % 26 by lia]
  exact map_range_get _ (by lia)
theorem names_ok (B : Bui hb) (D : DefAt hb "_law_names" (fnS pw 9) ["_law_script", "_law_plots_here"] (fnB pw 9)) {m_at m_called : List PyData → Option PyData} (h_law_at : DefG pw w hb 2 "_law_at" m_at)
    (e_at : ∀ (l : List Int) (k : Int), 0 ≤ k → m_at [.list (intsP l), .int k] = some (.int (sAt l k))) (h_law_called : DefG pw w hb 2 "_law_called" m_called)
    (e_called : ∀ (c k : Int) (s : List Nat), 0 ≤ k → 1 ≤ s.length → s.length ≤ 8 → m_called [.int c, .int k, .str (S s)] = some (.str (S (calledS c k s)))) :
    ∃ m, DefG pw w hb 3 "_law_names" m ∧ ∀ (l : List Int) (ps : List (List Nat × Option (List Nat))), m [.list (intsP l), .list (ps.map plotP)] = some (.list ((namesS l ps).map strP)) := by
  refine ⟨_, DefG.of D (n := 2) (St.cons (S1.assign (Ev.def h_law_at (Evs.cons Ev.v (Evs.cons Ev.cint Evs.nil)) (by decide +kernel) (by decide) (by intro _; rfl)) (by decide +kernel))
    (St.cons (S1.assign (Ev.bin Ev.cint (Ev.bin Ev.v Ev.cint)) (by decide +kernel))
    (St.cons (S1.if (Tr.cmp (Ev.bin (Ev.bin Ev.v Ev.cint) Ev.cint) Ev.cint) (St.cons (S1.assign Ev.cint (by decide +kernel))
      St.nil) St.nil)
    (St.cons (S1.if (Tr.cmp (Ev.bin (Ev.bin Ev.v Ev.cint) Ev.cint) Ev.cint) (St.cons (S1.ret (Ev.slice (Ev.comp (locs := [".0", "_law_plot", "_law_outer"]) (by decide +kernel) (It.data Ev.v (by intro _ _; rfl)) (TgL.tuple (xs := ["_law_plot", "_law_outer"]) (by decide +kernel) (by decide +kernel) rfl (by intro _; rfl)) Ifs.nil Ev.v) Pt.no (Pt.yes Ev.v) Pt.no (by intro _ _; exact ⟨_, rfl⟩)))
      St.nil) St.nil)
    (St.cons (S1.assign Ev.s (by decide +kernel))
    (St.cons (S1.ret (Ev.comp (locs := [".0", "_law_k"]) (by decide +kernel) (It.range (by decide +kernel) B.range Ev.v (by intro _; rfl)) (TgL.name (by decide +kernel) (by decide +kernel)) Ifs.nil (Ev.def h_law_called (Evs.cons (Ev.bin Ev.v Ev.cint) (Evs.cons Ev.v (Evs.cons (Ev.bin (Ev.idx Ev.s (Ev.bin Ev.v Ev.cint)) (Ev.idx Ev.v (Ev.bin Ev.v Ev.cint))) Evs.nil))) (by decide +kernel) (by decide) (by intro _; rfl))))
    St.nil)))))) _ (fun _ _ h => h), ?_⟩
  intro l ps
  have a2 := e_at l 2 (by decide)
  have hmany := nmany_le l
  refine fn_ret rfl ?_
  refine seq (by simp only [run_eq, cond_true, cond_false, e_rho_nil, e_rho, e_flist, e_rv, e_putd, String.reduceBEq, Option.bind_eq_bind, Option.bind_some, Option.map_some, List.map_cons, List.map_nil, a2]; rfl) ?_
  refine seq (by simp only [run_eq, e_add, e_mod, e_set, cond_true, cond_false, e_rho_nil, e_rho, e_flist, e_rv, e_putd, String.reduceBEq, Option.bind_eq_bind, Option.bind_some, Int.reduceLT]; rfl) ?_
  refine seqE (fun ρ => ρ "_law_many" = some (.val ⟨.int (nmanyS l), .d⟩) ∧ ρ "_law_cell" = some (.val ⟨.int (sAt l 2), .d⟩) ∧ ρ "_law_plots_here" = some (.val ⟨.list (ps.map plotP), .s⟩)) ?_ ?_
  · by_cases h0 : sAt l 2 / 5 % 16 = 3
    · have hv : nmanyS l = 60 := if_pos h0
      exact ⟨_, by simp only [run_eq, e_div, e_mod, e_set, cond_true, cond_false, e_rho_nil, e_rho, e_flist, e_rv, e_putd, e_thn, e_eqi, String.reduceBEq, Option.bind_eq_bind, Option.bind_some, if_true, Int.reduceLT, Int.reduceBEq, h0]; rfl, by simp only [e_set, cond_true, cond_false, e_rho_nil, e_rho, e_flist, String.reduceBEq, hv], by simp only [e_set, cond_true, cond_false, e_rho_nil, e_rho, e_flist, String.reduceBEq], by simp only [e_set, cond_true, cond_false, e_rho_nil, e_rho, e_flist, String.reduceBEq]⟩
    · have hv : nmanyS l = 1 + sAt l 2 % 5 := if_neg h0
      have h0' : (sAt l 2 / 5 % 16 == 3) = false := beq_eq_false_iff_ne.mpr h0
      exact ⟨_, by simp only [run_eq, e_div, e_mod, e_set, cond_true, cond_false, e_rho_nil, e_rho, e_flist, e_rv, e_putd, e_thn, e_eqi, String.reduceBEq, Option.bind_eq_bind, Option.bind_some, if_false, Bool.false_eq_true, Int.reduceLT, h0']; rfl, by simp only [e_set, cond_true, cond_false, e_rho_nil, e_rho, e_flist, String.reduceBEq, hv], by simp only [e_set, cond_true, cond_false, e_rho_nil, e_rho, e_flist, String.reduceBEq], by simp only [e_set, cond_true, cond_false, e_rho_nil, e_rho, e_flist, String.reduceBEq]⟩
  rintro ρ ⟨hm, hc, hp⟩
  by_cases h1 : sAt l 2 / 5 % 4 = 1
  · have hv : namesS l ps = (ps.map (·.1)).take (nmanyS l).toNat := if_pos h1
    refine seqRet (ifR_yes (by simp only [tst_eq, e_div, e_mod, e_rv, e_eqi, Option.bind_eq_bind, Option.bind_some, Int.reduceLT, Int.reduceBEq, hc, h1]) (seqRet ?_))
    simp only [run_eq, e_rv, Option.bind_eq_bind, Option.bind_some, hp, compV, itemsOf]
    rw [comp_map plotP (fun p => .str (S p.1)) (fun p _ => by simp only [e_set, cond_true, cond_false, e_ftup, e_rv, e_putRd, e_tup, e_putn, e_putc, e_inc, memS_nil, memS_cons, Bool.false_or, fix_d, fl_nil, fl_str, String.reduceBEq, Option.bind_some, if_true, List.map_cons, List.map_nil, cstep, plotP, fl_opt])]
    simp only [e_rv, e_ret, e_sll, lo_none, newL_d, Option.bind_some, Option.map_some, hm, List.length_map]
    have e : ((ps.map fun p => PyData.str (S p.1)).take (clipHi (some (nmanyS l)) ps.length)).drop (clipLo none ps.length) = (namesS l ps).map strP := by
      rw [hv, lo_none, List.drop_zero, List.map_take, List.map_map]
      simp only [clipHi]
      rw [if_neg (by lia), show (fun p : List Nat × Option (List Nat) => PyData.str (S p.1)) = strP ∘ (fun p => p.1) from rfl]
      by_cases hle : (nmanyS l).toNat ≤ ps.length
      · rw [Nat.min_eq_left hle]
      · rw [Nat.min_eq_right (by lia), List.take_of_length_le (by simp), List.take_of_length_le (by simp; lia)]
    rw [lo_none] at e
    rw [e]
  · have hv : namesS l ps = (List.range (nmanyS l).toNat).map fun (k : Nat) => calledS (sAt l 2 / 80) k (signS k) := if_neg h1
    have h1' : (sAt l 2 / 5 % 4 == 1) = false := beq_eq_false_iff_ne.mpr h1
    refine seq (ifR_no (by simp only [tst_eq, e_div, e_mod, e_rv, e_eqi, Option.bind_eq_bind, Option.bind_some, Int.reduceLT, hc, h1']) rfl) ?_
    refine seq (by simp only [run_eq, e_putd, Option.bind_some, ends_eq]; rfl) ?_
    refine seqRet ?_
    simp only [run_eq, e_set, cond_false, e_rv, fix_d, String.reduceBEq, Option.bind_eq_bind, Option.bind_some, if_true, and_self, Int.reducePow, Int.reduceNeg, hm, compV, le_lineI (show nmanyS l ≤ 1000 by lia), rng_lo (show 0 ≤ nmanyS l by lia)]
    rw [comp_range (fun k => strP (calledS (sAt l 2 / 80) k (signS k))) (fun k hk => by
      have hcl := e_called (sAt l 2 / 80) k (signS k) (by lia) (by simp [signS]) (by simp [signS])
      have hs : aBinV .Add ⟨.str (S [97 + k / 26]), .d⟩ ⟨.str (S [122 - k % 26]), .d⟩ = some ⟨.str (S (signS k)), .d⟩ := e_addS (by simp)
      simp only [e_div, e_mod, e_set, cond_true, cond_false, e_fint, e_fstr, e_rv, e_putRd, e_inc, memS_nil, memS_cons, Bool.false_or, fix_d, String.reduceBEq, e_idx_s, Option.bind_some, Option.map_some, if_true, List.map_cons, List.map_nil, Int.reduceLT, cstep, abc_eq, ends_at, abc_at (show k < 78 by lia), hc, hs, hcl, strP])]
    simp only [e_ret, Option.bind_some, Option.map_some, hv, List.map_map]
    rfl
inductive Row where
  | op (p : List Nat)
  | lay (n p : List Nat) (i : Int)
  | copy (n o p : List Nat)
  | same (n o : List Nat)
  | add (n o : List Nat)
  | tell (n : List Nat)
  | give (p : List Nat)
  | fork (k : Int)
  | go (k : Int)
  | fin
noncomputable def Row.parts : Row → String × List PyData
  | .op p => ("open", [strP p])
  | .lay n p i => ("lay", [strP n, strP p, .int i])
  | .copy n o p => ("copy", [strP n, strP o, strP p])
  | .same n o => ("same", [strP n, strP o])
  | .add n o => ("add", [strP n, strP o])
  | .tell n => ("tell", [strP n])
  | .give p => ("give", [strP p])
  | .fork k => ("fork", [.int k])
  | .go k => ("go", [.int k])
  | .fin => ("end", [])
noncomputable def rowP (r : Row) : PyData := .tuple (.str (Str.ofString r.parts.1) :: r.parts.2)
noncomputable def moreS (c : Int) : Int := (c / 10 * 48271 + 11) % 1000003
noncomputable def numS (c : Int) : Int := if moreS c % 4 = 1 then c / 10 % 2000000000000000001 - 1000000000000000000 else c / 10 % 19 - 9
noncomputable def pickN (ns : List (List Nat)) (i : Int) : List Nat := (ns[(i % ns.length).toNat]?).getD []
noncomputable def pickP (ps : List (List Nat × Option (List Nat))) (i : Int) : List Nat := ((ps[(i % ps.length).toNat]?).getD ([], none)).1
noncomputable def rowK (k : Nat) (nm ot pl : List Nat) (num at' : Int) : Row :=
  match k with
  | 0 => .op pl
  | 1 => .lay nm pl num
  | 2 => .copy nm ot pl
  | 3 => .same nm ot
  | 4 => .add nm ot
  | 5 => .tell nm
  | 6 => .give pl
  | 7 => .fork at'
  | 8 => .go at'
  | _ => .fin
noncomputable def rowS (c : Int) (ps : List (List Nat × Option (List Nat))) (ns : List (List Nat)) (size : Int) : Row :=
  rowK (c % 10).toNat (pickN ns (moreS c)) (pickN ns (moreS c / 7)) (pickP ps (moreS c / 61)) (numS c) (moreS c / 1013 % (size + 1))
theorem pickN_at {ns : List (List Nat)} (h : 0 < ns.length) (i : Int) : seqAt (ns.map strP) (i % ns.length) = some (strP (pickN ns i)) := by
  have h1 := Int.emod_nonneg i (show (ns.length : Int) ≠ 0 by lia)
  have h2 := Int.emod_lt_of_pos i (show 0 < (ns.length : Int) by lia)
  rw [seqAt_nat h1, List.getElem?_map]
  unfold pickN
  rw [List.getElem?_eq_getElem (by lia)]; rfl
theorem pickP_at {ps : List (List Nat × Option (List Nat))} (h : 0 < ps.length) (i : Int) : ∃ o, seqAt (ps.map plotP) (i % ps.length) = some (plotP (pickP ps i, o)) := by
  have h1 := Int.emod_nonneg i (show (ps.length : Int) ≠ 0 by lia)
  have h2 := Int.emod_lt_of_pos i (show 0 < (ps.length : Int) by lia)
  refine ⟨((ps[(i % ps.length).toNat]?).getD ([], none)).2, ?_⟩
  rw [seqAt_nat h1, List.getElem?_map]
  unfold pickP
  rw [List.getElem?_eq_getElem (by lia)]; rfl
theorem ten {P : Nat → Prop} (h0 : P 0) (h1 : P 1) (h2 : P 2) (h3 : P 3) (h4 : P 4) (h5 : P 5) (h6 : P 6) (h7 : P 7) (h8 : P 8) (h9 : P 9) : ∀ k, k < 10 → P k := by
  intro k hk
  rcases k with _ | _ | _ | _ | _ | _ | _ | _ | _ | _ | k
  · exact h0
  · exact h1
  · exact h2
  · exact h3
  · exact h4
  · exact h5
  · exact h6
  · exact h7
  · exact h8
  · exact h9
  · exact absurd hk (Nat.not_lt.mpr (Nat.le_add_left 10 k))
theorem row_ok (B : Bui hb) (D : DefAt hb "_law_row" (fnS pw 10) ["_law_cell", "_law_plots_here", "_law_names_here", "_law_size"] (fnB pw 10)) :
    ∃ m, DefG pw w hb 2 "_law_row" m ∧ ∀ (c : Int) (ps : List (List Nat × Option (List Nat))) (ns : List (List Nat)) (size : Int), 0 < ps.length → 0 < ns.length → 0 ≤ size →
      m [.int c, .list (ps.map plotP), .list (ns.map strP), .int size] = some (rowP (rowS c ps ns size)) := by
  refine ⟨_, DefG.of D (n := 1) (St.cons (S1.assign (Ev.bin (Ev.bin (Ev.bin (Ev.bin Ev.v Ev.cint) Ev.cint) Ev.cint) Ev.cint) (by decide +kernel))
    (St.cons (S1.assign (Ev.idx Ev.v (Ev.bin Ev.v (Ev.len B (Evs.cons Ev.v Evs.nil) (by decide +kernel) (by intro _; rfl)))) (by decide +kernel))
    (St.cons (S1.assign (Ev.idx Ev.v (Ev.bin (Ev.bin Ev.v Ev.cint) (Ev.len B (Evs.cons Ev.v Evs.nil) (by decide +kernel) (by intro _; rfl)))) (by decide +kernel))
    (St.cons (S1.assign (Ev.idx (Ev.idx Ev.v (Ev.bin (Ev.bin Ev.v Ev.cint) (Ev.len B (Evs.cons Ev.v Evs.nil) (by decide +kernel) (by intro _; rfl)))) Ev.cint) (by decide +kernel))
    (St.cons (S1.assign (Ev.bin (Ev.bin (Ev.bin Ev.v Ev.cint) Ev.cint) Ev.cint) (by decide +kernel))
    (St.cons (S1.if (Tr.cmp (Ev.bin Ev.v Ev.cint) Ev.cint) (St.cons (S1.assign (Ev.bin (Ev.bin (Ev.bin Ev.v Ev.cint) Ev.cint) Ev.cint) (by decide +kernel))
      St.nil) St.nil)
    (St.cons (S1.assign (Ev.bin (Ev.bin Ev.v Ev.cint) (Ev.bin Ev.v Ev.cint)) (by decide +kernel))
    (St.cons (S1.assign (Ev.bin Ev.v Ev.cint) (by decide +kernel))
    (St.cons (S1.if (Tr.cmp Ev.v Ev.cint) (St.cons (S1.ret (Ev.idx (Ev.list (Evs.cons (Ev.tuple (Evs.cons Ev.s (Evs.cons Ev.v Evs.nil))) (Evs.cons (Ev.tuple (Evs.cons Ev.s (Evs.cons Ev.v (Evs.cons Ev.v (Evs.cons Ev.v Evs.nil))))) Evs.nil))) Ev.v))
      St.nil) St.nil)
    (St.cons (S1.if (Tr.cmp Ev.v Ev.cint) (St.cons (S1.ret (Ev.idx (Ev.list (Evs.cons (Ev.tuple (Evs.cons Ev.s (Evs.cons Ev.v (Evs.cons Ev.v (Evs.cons Ev.v Evs.nil))))) (Evs.cons (Ev.tuple (Evs.cons Ev.s (Evs.cons Ev.v (Evs.cons Ev.v Evs.nil)))) (Evs.cons (Ev.tuple (Evs.cons Ev.s (Evs.cons Ev.v (Evs.cons Ev.v Evs.nil)))) (Evs.cons (Ev.tuple (Evs.cons Ev.s (Evs.cons Ev.v Evs.nil))) Evs.nil))))) (Ev.bin Ev.v Ev.cint)))
      St.nil) St.nil)
    (St.cons (S1.ret (Ev.idx (Ev.list (Evs.cons (Ev.tuple (Evs.cons Ev.s (Evs.cons Ev.v Evs.nil))) (Evs.cons (Ev.tuple (Evs.cons Ev.s (Evs.cons Ev.v Evs.nil))) (Evs.cons (Ev.tuple (Evs.cons Ev.s (Evs.cons Ev.v Evs.nil))) (Evs.cons (Ev.tuple (Evs.cons Ev.s Evs.nil)) Evs.nil))))) (Ev.bin Ev.v Ev.cint)))
    St.nil))))))))))) _ (fun _ _ h => h), ?_⟩
  intro c ps ns size hp hn hz
  have hp' : (0 : Int) < (ps.length : Nat) := by lia
  have hn' : (0 : Int) < (ns.length : Nat) := by lia
  have hz' : 0 < size + 1 := by lia
  have n1 := pickN_at hn (moreS c)
  have n2 := pickN_at hn (moreS c / 7)
  obtain ⟨o, p1⟩ := pickP_at hp (moreS c / 61)
  have p2 : seqAt [PyData.str (S (pickP ps (moreS c / 61))), optP o] 0 = some (strP (pickP ps (moreS c / 61))) := rfl
  refine fn_ret rfl ?_
  refine seq (by simp only [run_eq, e_add, e_mul_r, e_div, e_mod, cond_true, cond_false, e_rho_nil, e_rho, e_fint, e_flist, e_rv, e_putd, String.reduceBEq, Option.bind_eq_bind, Option.bind_some, Int.reduceLT, Int.reduceNeg, show (c / 10 * 48271 + 11) % 1000003 = moreS c from rfl]; rfl) ?_
  refine seq (by simp only [run_eq, e_set, cond_true, cond_false, e_rho_nil, e_rho, e_fint, e_fstr, e_flist, e_rv, e_putd, e_len_l, String.reduceBEq, e_idx_l, Option.bind_eq_bind, Option.bind_some, Option.map_some, List.length_map, e_mod hn', n1]; rfl) ?_
  refine seq (by simp only [run_eq, e_div, e_set, cond_true, cond_false, e_rho_nil, e_rho, e_fint, e_fstr, e_flist, e_rv, e_putd, e_len_l, String.reduceBEq, e_idx_l, Option.bind_eq_bind, Option.bind_some, Option.map_some, Int.reduceLT, List.length_map, e_mod hn', n2]; rfl) ?_
  refine seq (by simp only [run_eq, e_div, e_set, cond_true, cond_false, e_rho_nil, e_rho, e_fint, e_flist, e_ftup, e_rv, e_putd, e_len_l, fix_d, fl_nil, fl_str, String.reduceBEq, e_idx_l, e_idx_t, Option.bind_eq_bind, Option.bind_some, Option.map_some, Int.reduceLT, List.length_map, e_mod hp', p1, plotP, fl_opt, p2]; rfl) ?_
  refine seq (by simp only [run_eq, e_sub, e_div, e_mod, e_set, cond_true, cond_false, e_rho_nil, e_rho, e_fint, e_flist, e_rv, e_putd, String.reduceBEq, Option.bind_eq_bind, Option.bind_some, Int.reduceLT]; rfl) ?_
  refine seqE (fun ρ => ρ "_law_number" = some (.val ⟨.int (numS c), .d⟩) ∧ ρ "_law_name" = some (.val ⟨strP (pickN ns (moreS c)), .d⟩) ∧ ρ "_law_other" = some (.val ⟨strP (pickN ns (moreS c / 7)), .d⟩) ∧ ρ "_law_plot" = some (.val ⟨strP (pickP ps (moreS c / 61)), .d⟩) ∧
    ρ "_law_more" = some (.val ⟨.int (moreS c), .d⟩) ∧ ρ "_law_cell" = some (.val ⟨.int c, .d⟩) ∧ ρ "_law_size" = some (.val ⟨.int size, .d⟩)) ?_ ?_
  · by_cases h0 : moreS c % 4 = 1
    · have hv : numS c = c / 10 % 2000000000000000001 - 1000000000000000000 := if_pos h0
      exact ⟨_, by simp only [run_eq, e_sub, e_div, e_mod, e_set, cond_true, cond_false, e_rho_nil, e_rho, e_fint, e_flist, e_rv, e_putd, e_thn, e_eqi, String.reduceBEq, Option.bind_eq_bind, Option.bind_some, if_true, Int.reduceLT, Int.reduceBEq, h0]; rfl, by simp only [e_set, cond_true, cond_false, e_rho_nil, e_rho, e_fint, e_flist, String.reduceBEq, hv], by simp only [e_set, cond_true, cond_false, e_rho_nil, e_rho, e_fint, e_flist, String.reduceBEq], by simp only [e_set, cond_true, cond_false, e_rho_nil, e_rho, e_fint, e_flist, String.reduceBEq], by simp only [e_set, cond_true, cond_false, e_rho_nil, e_rho, e_fint, e_flist, String.reduceBEq], by simp only [e_set, cond_true, cond_false, e_rho_nil, e_rho, e_fint, e_flist, String.reduceBEq], by simp only [e_set, cond_true, cond_false, e_rho_nil, e_rho, e_fint, e_flist, String.reduceBEq], by simp only [e_set, cond_true, cond_false, e_rho_nil, e_rho, e_fint, e_flist, String.reduceBEq]⟩
    · have hv : numS c = c / 10 % 19 - 9 := if_neg h0
      have h0' : (moreS c % 4 == 1) = false := beq_eq_false_iff_ne.mpr h0
      exact ⟨_, by simp only [run_eq, e_sub, e_div, e_mod, e_set, cond_true, cond_false, e_rho_nil, e_rho, e_fint, e_flist, e_rv, e_putd, e_thn, e_eqi, String.reduceBEq, Option.bind_eq_bind, Option.bind_some, if_false, Bool.false_eq_true, Int.reduceLT, h0']; rfl, by simp only [e_set, cond_true, cond_false, e_rho_nil, e_rho, e_fint, e_flist, String.reduceBEq, hv], by simp only [e_set, cond_true, cond_false, e_rho_nil, e_rho, e_fint, e_flist, String.reduceBEq], by simp only [e_set, cond_true, cond_false, e_rho_nil, e_rho, e_fint, e_flist, String.reduceBEq], by simp only [e_set, cond_true, cond_false, e_rho_nil, e_rho, e_fint, e_flist, String.reduceBEq], by simp only [e_set, cond_true, cond_false, e_rho_nil, e_rho, e_fint, e_flist, String.reduceBEq], by simp only [e_set, cond_true, cond_false, e_rho_nil, e_rho, e_fint, e_flist, String.reduceBEq], by simp only [e_set, cond_true, cond_false, e_rho_nil, e_rho, e_fint, e_flist, String.reduceBEq]⟩
  rintro ρ ⟨h1, h2, h3, h4, h5, h6, h7⟩
  refine seq (by simp only [run_eq, e_add, e_div, e_rv, e_putd, Option.bind_eq_bind, Option.bind_some, Int.reduceLT, h5, h7, e_mod hz']; rfl) ?_
  refine seq (by simp only [run_eq, e_mod, e_set, cond_false, e_rv, e_putd, String.reduceBEq, Option.bind_eq_bind, Option.bind_some, Int.reduceLT, h6]; rfl) ?_
  obtain ⟨k, hk, ek⟩ : ∃ k : Nat, k < 10 ∧ c % 10 = k := ⟨(c % 10).toNat, by lia, by lia⟩
  rw [rho_know [("_law_number", .val ⟨.int (numS c), .d⟩), ("_law_name", .val ⟨strP (pickN ns (moreS c)), .d⟩), ("_law_other", .val ⟨strP (pickN ns (moreS c / 7)), .d⟩), ("_law_plot", .val ⟨strP (pickP ps (moreS c / 61)), .d⟩)] (know_cons h1 (know_cons h2 (know_cons h3 (know_cons h4 know_nil))))]
  have hrow : rowS c ps ns size = rowK (c % 10).toNat (pickN ns (moreS c)) (pickN ns (moreS c / 7)) (pickP ps (moreS c / 61)) (numS c) (moreS c / 1013 % (size + 1)) := rfl
  rw [hrow]
  clear hrow
  rw [ek]
  clear ek
  revert k
  refine ten ?_ ?_ ?_ ?_ ?_ ?_ ?_ ?_ ?_ ?_ <;> kernel_rfl
end

section
theorem plots_len (l : List Int) : (plotsS l).length = (manyS l).toNat := by simp [plotsS]
theorem ints_take (l : List Int) (a b : Nat) : ((intsP l).take a).drop b = intsP ((l.take a).drop b) := by simp [intsP]
theorem flats_ints (l : List Int) : flats (intsP l) = true := by
  rw [flats_iff]; intro x hx
  obtain ⟨i, _, rfl⟩ := List.mem_map.mp hx
  rfl
theorem newL_ints (l : List Int) (f : Fl) : V.newL (intsP l) f = ⟨.list (intsP l), .d⟩ := by unfold V.newL; rw [if_pos (flats_ints l)]
theorem names_pos (l : List Int) : 0 < (namesS l (plotsS l)).length := by
  have h1 := plots_len l
  have h2 := many_le l
  have h3 := nmany_le l
  unfold namesS; split
  · simp; lia
  · simp; lia
theorem plain_strP (n : List Nat) : plain 1 (strP n) := plain_str _
theorem plain_map {α : Type} {k : Nat} {f : α → PyData} (hf : ∀ a, plain k (f a)) (xs : List α) : plain (k + 1) (.list (xs.map f)) := plain_list fun x hx => by
  obtain ⟨a, _, rfl⟩ := List.mem_map.mp hx; exact hf a
theorem flats_row (r : Row) : flats (.str (Str.ofString r.parts.1) :: r.parts.2) = true := by cases r <;> rfl
theorem fix_row (r : Row) (f : Fl) : V.fix (rowP r) f = ⟨rowP r, .d⟩ := e_ftup (flats_row r)
theorem row_zero (r : Row) : aIdx (rowP r) (.int 0) = some (.str (Str.ofString r.parts.1)) := rfl
end

section
variable {w : World} {hb : Heap}
noncomputable abbrev Plots := List (List Nat × Option (List Nat))
noncomputable def Chain (ps : Plots) (c : List (List Nat)) : Prop := ∀ i n, c[i]? = some n → ps.lookup n = some c[i + 1]?
noncomputable def entP (p : List Nat × Option (List Nat)) : Str × PyData := (S p.1, optP p.2)
theorem at_ent {n : List Nat} {o : Option (List Nat)} : ∀ {ps : Plots}, ps.lookup n = some o → aIdx (dictOf (ps.map entP)) (.str (S n)) = some (optP o)
  | [], h => by simp at h
  | p :: ps, h => by
    rw [List.lookup_cons] at h
    show atKey (S n) ((.str (S p.1), optP p.2) :: (ps.map entP).map fun p => (.str p.1, p.2)) = _
    rw [atKey]
    by_cases e : n = p.1
    · subst e
      simp only [beq_self_eq_true] at h
      rw [if_pos rfl, ← Option.some.inj h]
    · rw [beq_eq_false_iff_ne.mpr e] at h
      rw [if_neg fun q => e (S_inj q).symm]
      exact at_ent h
theorem put_new {ps : Plots} {p : List Nat × Option (List Nat)} (h : p.1 ∉ ps.map (·.1)) : putKey (ps.map entP) (S p.1) (optP p.2) = (ps ++ [p]).map entP := by
  unfold putKey
  rw [if_neg]
  · simp [entP]
  · simp only [List.any_map, List.any_eq_true, not_exists, not_and]
    intro q hq
    exact fun e => h (List.mem_map.mpr ⟨q, hq, S_inj (of_decide_eq_true e)⟩)
theorem nodup_get {α : Type} {l : List α} (h : l.Nodup) {i j : Nat} {a : α} (hi : l[i]? = some a) (hj : l[j]? = some a) : i = j := by
  obtain ⟨h1, e1⟩ := List.getElem?_eq_some_iff.mp hi
  exact (List.getElem?_inj h1 h).mp (hi.trans hj.symm)
theorem opt_some {n : List Nat} : optP (some n) = .str (S n) := rfl
theorem outward_ok (B : Bui hb) (D : DefAt hb "outward" (fnS pw 1) ["plots", "plot"] (fnB pw 1)) :
    ∃ m, DefG pw w hb 2 "outward" m ∧ ∀ (ps : Plots) (c : List (List Nat)) (n : List Nat), (ps.map (·.1)).Nodup → ps.length ≤ 900 → Chain ps c → c[0]? = some n → c.length ≤ 90 →
      m [.list (ps.map plotP), strP n] = some (.list (c.map strP)) := by
  refine ⟨_, DefG.of D (n := 1) (St.cons (S1.ownDict (by decide +kernel))
    (St.cons (S1.for (It.data Ev.v (by intro _ _; rfl)) (Tg.name (by decide +kernel)) (St.cons (S1.setKey (Ev.idx Ev.v Ev.cint) (Ev.idx Ev.v Ev.cint) (by decide +kernel) (by intro _; rfl))
      St.nil))
    (St.cons (S1.ownList Evs.nil (by decide +kernel))
    (St.cons (S1.while 100 (Tr.cmp Ev.v Ev.cnone) (St.cons (S1.append Ev.v (by decide +kernel) (by intro _; rfl) (by rfl) (by intro env h; unfold interactive; rw [h]; rfl))
      (St.cons (S1.assign (Ev.idx Ev.v Ev.v) (by decide +kernel))
      St.nil)))
    (St.cons (S1.retOwn (by decide +kernel))
    St.nil))))) _ (fun _ _ h => h), ?_⟩
  intro ps c n hnd hlen hch h0 hcl
  refine fn_ret rfl ?_
  refine seq rfl ?_
  refine seqE (fun ρ => ρ "outer" = some (.own (.dct (ps.map entP))) ∧ ρ "plot" = some (.val ⟨strP n, .d⟩)) ?_ ?_
  · refine for_run (ps.map plotP) .s (by simp only [itr_eq, e_set, cond_true, cond_false, e_rho_nil, e_rho, e_fstr, e_flist, e_rv, String.reduceBEq, Option.bind_some, itemsOf]) (by decide) ?_
    refine (forD_inv' (fun i ρ => ρ "outer" = some (.own (.dct ((ps.take i).map entP))) ∧ ρ "plot" = some (.val ⟨strP n, .d⟩)) ⟨by simp only [e_set, cond_true, cond_false, e_rho_nil, e_rho, e_fstr, e_flist, String.reduceBEq]; rfl, by simp only [e_set, cond_true, cond_false, e_rho_nil, e_rho, e_fstr, e_flist, String.reduceBEq]⟩ ?_).imp fun ρ' h => ⟨h.1, ?_⟩
    · intro i x ρ hx ⟨h1, h2⟩
      rw [List.getElem?_map] at hx
      obtain ⟨p, hp, rfl⟩ := Option.map_eq_some_iff.mp hx
      have hi := (List.getElem?_eq_some_iff.mp hp).1
      refine ⟨_, by simp only [e_ftup, e_putRd, fl_nil, fl_str, plotP, fl_opt]; rfl, ?_⟩
      have p0 : seqAt [PyData.str (S p.1), optP p.2] 0 = some (.str (S p.1)) := rfl
      have p1 : seqAt [PyData.str (S p.1), optP p.2] 1 = some (optP p.2) := rfl
      have hl : ((ps.take i).map entP).length + 1 ≤ sizeLine := le_line (by simp; lia)
      have hk := put_new (ps := ps.take i) (p := p) (by
        rw [List.map_take]
        intro hm
        obtain ⟨j, hj⟩ := List.getElem?_of_mem hm
        have hj' : j < i := by
          have := (List.getElem?_eq_some_iff.mp hj).1
          simp at this; lia
        rw [List.getElem?_take, if_pos hj'] at hj
        have hi' : (ps.map (·.1))[i]? = some p.1 := by rw [List.getElem?_map, hp]; rfl
        exact absurd (nodup_get hnd hj hi') (by lia))
      refine seqN (by simp only [run_eq, e_set, cond_true, cond_false, e_rv, fix_d, String.reduceBEq, e_idx_t, Option.bind_eq_bind, Option.bind_some, if_true, and_true, h1, p0, p1, hl, hk]; rfl) ?_
      refine doneN ⟨?_, by simp only [e_set, cond_false, String.reduceBEq, h2]⟩
      simp only [e_set, cond_true, cond_false, String.reduceBEq]
      rw [List.take_add_one, hp]; rfl
    · obtain ⟨_, h1, h2⟩ := h
      rw [List.length_map, List.take_length] at h1
      exact ⟨h1, h2⟩
  rintro ρ ⟨h1, h2⟩
  refine seq (by simp only [run_eq, le_line, fls_nil, Option.bind_some, if_true, List.map_nil, List.length_nil, and_self, Nat.reduceLeDiff]; rfl) ?_
  refine seqE (fun ρ => ρ "found" = some (.own (.lst (c.map strP)))) ?_ ?_
  · refine (whileD_inv' (fun i ρ => ρ "found" = some (.own (.lst ((c.take i).map strP))) ∧ ρ "outer" = some (.own (.dct (ps.map entP))) ∧ ρ "plot" = some (.val ⟨optP c[i]?, .d⟩)) c.length ?_ (by lia) ?_ ?_).imp fun ρ' h => ⟨h.1, ?_⟩
    · exact ⟨by simp only [e_set, cond_true, String.reduceBEq]; rfl, by simp only [e_set, cond_false, String.reduceBEq, h1], by simp only [e_set, cond_false, String.reduceBEq, h2, h0, optP]⟩
    · rintro i ρ hi ⟨f1, f2, f3⟩
      have hn : c[i]? = some c[i] := List.getElem?_eq_getElem hi
      rw [hn] at f3
      have hl : ((c.take i).map strP).length + 1 ≤ sizeLine := le_line (by simp; lia)
      have hlk := at_ent (hch i _ hn)
      have hfx : ∀ o : Option (List Nat), V.fix (optP o) .t = ⟨optP o, .d⟩ := fun o => by cases o <;> rfl
      refine ⟨by simp only [tst_eq, e_rv, e_isnot, Option.bind_eq_bind, Option.bind_some, Bool.not_false, f3, opt_some, isNone], ?_⟩
      refine seqN (by simp only [run_eq, e_rv, Option.bind_some, if_true, and_true, f1, f3, opt_some, hl]; rfl) ?_
      refine seqN (by simp only [run_eq, e_set, cond_false, e_rv, e_rd, e_putd, String.reduceBEq, Option.bind_eq_bind, Option.bind_some, f2, f3, opt_some, hlk, hfx]; rfl) ?_
      refine doneN ⟨?_, by simp only [e_set, cond_false, String.reduceBEq, f2], by simp only [e_set, cond_true, cond_false, String.reduceBEq]⟩
      simp only [e_set, cond_true, cond_false, String.reduceBEq]
      rw [List.take_add_one, hn, List.map_append]; rfl
    · rintro ρ ⟨f1, f2, f3⟩
      rw [List.getElem?_eq_none (Nat.le_refl _)] at f3
      simp only [tst_eq, e_rv, e_isnot, Option.bind_eq_bind, Option.bind_some, Bool.not_true, f3, optP, isNone]
    · rw [h.2.1, List.take_length]
  · intro ρ hf
    simp only [run_eq, e_thr, Option.bind_some, hf]
end

section
theorem tail_len (c k : Int) (n : Nat) : (tailS c k n).length = (sizeS c k n).toNat := by simp [tailS]
theorem called_inj {c k k' : Int} {s s' : List Nat} (hl : s.length = s'.length) (h : calledS c k s = calledS c k' s') : s = s' := by
  unfold calledS at h
  by_cases hc : c % 2 = 0
  · have e : ∀ j, turnS c j = c := fun j => by unfold turnS; rw [hc]; lia
    have e1 : ∀ j n, sizeS c j n = c / 26 % (9 - n) := fun j n => by unfold sizeS; rw [e]
    have e2 : ∀ j n, tailS c j n = tailS c 0 n := fun j n => by unfold tailS; rw [e1, e1, e, e]
    have e3 : ∀ j n, cutS c j n = cutS c 0 n := fun j n => by unfold cutS; rw [e1, e1]
    rw [e2 k, e2 k', e3 k, e3 k', ← hl] at h
    exact List.append_cancel_left (List.append_cancel_right h)
  · have e3 : ∀ j n, cutS c j n = sizeS c j n := fun j n => by unfold cutS; rw [if_neg hc]
    have e4 : ∀ j n, (tailS c j n).take (cutS c j n).toNat = tailS c j n := fun j n => by rw [e3, ← tail_len, List.take_length]
    have e5 : ∀ j n, (tailS c j n).drop (cutS c j n).toNat = [] := fun j n => by rw [e3, ← tail_len, List.drop_length]
    rw [e4, e4, e5, e5, List.append_nil, List.append_nil] at h
    exact (List.append_inj' h hl).2
theorem nodup_map_range {α : Type} (f : Nat → α) (hf : ∀ i j, f i = f j → i = j) (n : Nat) : ((List.range n).map f).Nodup := by
  rw [List.Nodup, List.pairwise_map]
  exact List.Pairwise.imp (fun h e => h (hf _ _ e)) List.nodup_range
theorem name_inj {l : List Int} {i j : Nat} (h : nameS l i = nameS l j) : i = j := by
  have := called_inj (by simp) h
  simp at this; lia
theorem plots_fst (l : List Int) : (plotsS l).map (·.1) = (List.range (manyS l).toNat).map (nameS l) := by
  unfold plotsS; rw [List.map_map]; rfl
theorem plots_nodup (l : List Int) : ((plotsS l).map (·.1)).Nodup := by
  rw [plots_fst]; exact nodup_map_range _ (fun i j h => name_inj h) _
theorem plots_get {l : List Int} {k : Nat} (h : k < (plotsS l).length) : (plotsS l)[k]? = some (plotS l k) := map_range_get _ (by rw [← plots_len]; exact h)
theorem lookup_get {β : Type} : ∀ {ps : List (List Nat × β)} {k : Nat} {p : List Nat × β}, (ps.map (·.1)).Nodup → ps[k]? = some p → ps.lookup p.1 = some p.2
  | [], k, p, _, h => by simp at h
  | q :: ps, 0, p, _, h => by
    simp at h; subst h
    rw [List.lookup_cons]; simp
  | q :: ps, k + 1, p, hn, h => by
    simp only [List.getElem?_cons_succ] at h
    rw [List.map_cons, List.nodup_cons] at hn
    have hne : p.1 ≠ q.1 := fun e => hn.1 (List.mem_map.mpr ⟨p, List.mem_of_getElem? h, e⟩)
    rw [List.lookup_cons, beq_eq_false_iff_ne.mpr hne]
    exact lookup_get hn.2 h
theorem plots_lookup {l : List Int} {k : Nat} (h : k < (plotsS l).length) : (plotsS l).lookup (nameS l k) = some (outerS l k) := lookup_get (plots_nodup l) (plots_get h)
theorem chain_of (l : List Int) : ∀ k, k < (plotsS l).length → ∃ c, Chain (plotsS l) c ∧ c[0]? = some (nameS l k) ∧ c.length ≤ k + 1 := by
  intro k
  induction k using Nat.strongRecOn with
  | _ k ih =>
    intro hk
    have hl := plots_lookup hk
    by_cases hp : pickS l k < k
    · have ho : outerS l k = some (nameS l (pickS l k).toNat) := if_pos hp
      have h0 := (pick_le l k).1
      obtain ⟨c, h1, h2, h3⟩ := ih (pickS l k).toNat (by lia) (by lia)
      refine ⟨nameS l k :: c, ?_, rfl, by simp; lia⟩
      intro i n hi
      cases i with
      | zero =>
        simp at hi; subst hi
        rw [hl, ho]; simp [h2]
      | succ i => simpa using h1 i n (by simpa using hi)
    · have ho : outerS l k = none := if_neg hp
      refine ⟨[nameS l k], ?_, rfl, by simp⟩
      intro i n hi
      cases i with
      | zero =>
        simp at hi; subst hi
        rw [hl, ho]; rfl
      | succ i => simp at hi
end

section
theorem names_chain {l : List Int} {p : List Nat} (h : p ∈ (plotsS l).map (·.1)) : ∃ c, Chain (plotsS l) c ∧ c[0]? = some p ∧ c.length ≤ 90 := by
  obtain ⟨q, hq, rfl⟩ := List.mem_map.mp h
  obtain ⟨k, hk⟩ := List.getElem?_of_mem hq
  have hl := (List.getElem?_eq_some_iff.mp hk).1
  rw [plots_get hl] at hk
  (have e := si hk; subst e; clear hk)
  obtain ⟨c, h1, h2, h3⟩ := chain_of l k hl
  have := plots_len l
  have := many_le l
  exact ⟨c, h1, h2, by lia⟩
theorem pickP_in {ps : Plots} (h : 0 < ps.length) (i : Int) : pickP ps i ∈ ps.map (·.1) := by
  have h1 := Int.emod_nonneg i (show (ps.length : Int) ≠ 0 by lia)
  have h2 := Int.emod_lt_of_pos i (show 0 < (ps.length : Int) by lia)
  have : (i % ps.length).toNat < ps.length := by lia
  unfold pickP
  rw [List.getElem?_eq_getElem this]
  exact List.mem_map.mpr ⟨_, List.getElem_mem this, rfl⟩
theorem row_op {c : Int} {ps : Plots} {ns : List (List Nat)} {size : Int} {p : List Nat} (hp : 0 < ps.length) (h : rowS c ps ns size = .op p) : p ∈ ps.map (·.1) := by
  unfold rowS at h
  generalize (c % 10).toNat = k at h
  unfold rowK at h
  split at h <;> cases h
  exact pickP_in hp _
end

section
theorem S_beq (a b : List Nat) : (S a == S b) = decide (a = b) := by
  rw [Bool.eq_iff_iff, beq_iff_eq, decide_eq_true_eq]; exact S_eq
noncomputable abbrev strT (x : String) : PyData := .str (Str.ofString x)
theorem eqv_tup (xs ys : List PyData) : PyData.eqv (.tuple xs) (.tuple ys) = PyData.eqvAll xs ys := by rw [PyData.eqv]
theorem eqv_cons (x y : PyData) (xs ys : List PyData) : PyData.eqvAll (x :: xs) (y :: ys) = (PyData.eqv x y && PyData.eqvAll xs ys) := by rw [PyData.eqvAll]
theorem eqv_nil : PyData.eqvAll [] [] = true := by rw [PyData.eqvAll]
theorem eqv_str (a b : Str) : PyData.eqv (.str a) (.str b) = (a == b) := by rw [PyData.eqv]
theorem nds_map {α : Type} {f : α → PyData} {k : Nat} (hf : ∀ a, plain k (f a)) (xs : List α) : nds (xs.map f) = true := (nds_iff _).mpr fun x hx => by
  obtain ⟨a, _, rfl⟩ := List.mem_map.mp hx; exact (hf a).1
theorem sq0 (x : PyData) (xs : List PyData) : seqAt (x :: xs) 0 = some x := rfl
theorem sq1 (x y : PyData) (xs : List PyData) : seqAt (x :: y :: xs) 1 = some y := rfl
theorem sq2 (x y z : PyData) (xs : List PyData) : seqAt (x :: y :: z :: xs) 2 = some z := rfl
theorem sq3 (x y z u : PyData) (xs : List PyData) : seqAt (x :: y :: z :: u :: xs) 3 = some u := rfl
theorem e_in_strs (p : List Nat) (c : List (List Nat)) : aCmp .In (strP p) (.list (c.map strP)) = some (decide (p ∈ c)) := by
  have h : (nd (strP p) && nds (c.map strP) && decide (min (PyData.depthAll (c.map strP)) (strP p).depth ≤ 60)) = true := by
    have := (plain_strP p).2
    simp only [(plain_strP p).1, nds_map plain_strP c, Bool.and_self, Bool.true_and, decide_eq_true_eq]; omega
  simp only [aCmp, cmpIn, inSeq, h, if_true]
  congr 1
  induction c with
  | nil => simp
  | cons x c ih =>
    have h2 : (nd (strP p) && nds (c.map strP) && decide (min (PyData.depthAll (c.map strP)) (strP p).depth ≤ 60)) = true := by
      have := (plain_strP p).2
      simp only [(plain_strP p).1, nds_map plain_strP c, Bool.and_self, Bool.true_and, decide_eq_true_eq]; omega
    rw [List.map_cons, List.any_cons, ih h2, eqv_str, S_beq]
    by_cases e : x = p
    · subst e; simp
    · simp [e, Ne.symm e]
end

section
variable {w : World} {hb : Heap}
noncomputable def scan : Plots → Option (List Nat) → List (List Nat)
  | [], _ => []
  | x :: xs, cur => if some x.1 = cur then x.1 :: scan xs x.2 else scan xs cur
theorem scan_none : ∀ xs : Plots, scan xs none = []
  | [] => rfl
  | x :: xs => by rw [scan, if_neg (by simp)]; exact scan_none xs
theorem rev_idx (n : Nat) : sliceIdx none none (some (-1)) n = (List.range n).map fun k => n - 1 - k := by
  unfold sliceIdx sliceBounds
  simp only [Option.getD_some, show ¬ ((-1 : Int) > 0) by decide, if_false]
  unfold sliceRange
  simp only [show ¬ ((-1 : Int) > 0) by decide, if_false]
  have e : (if (n : Int) - 1 > -1 then ((n : Int) - 1 - -1 - -1 - 1) / (- -1) else 0).toNat = n := by
    split
    · rw [show (- -1 : Int) = 1 by decide, Int.ediv_one]; lia
    · lia
  rw [e]
  refine List.map_congr_left fun k hk => ?_
  have := List.mem_range.mp hk
  lia
theorem fm_congr {α β : Type} {f g : α → Option β} : ∀ {xs : List α}, (∀ x ∈ xs, f x = g x) → xs.filterMap f = xs.filterMap g
  | [], _ => rfl
  | x :: xs, h => by rw [List.filterMap_cons, List.filterMap_cons, h x (.head _), fm_congr fun y hy => h y (.tail _ hy)]
theorem rev_pick {α : Type} (xs : List α) : ((List.range xs.length).map fun k => xs.length - 1 - k).filterMap (xs[·]?) = xs.reverse := by
  rw [List.filterMap_map]
  have : ∀ k ∈ List.range xs.length, ((fun x => xs[x]?) ∘ fun k => xs.length - 1 - k) k = xs.reverse[k]? := by
    intro k hk
    have := List.mem_range.mp hk
    rw [List.getElem?_reverse this]; rfl
  rw [fm_congr this]
  have h2 := pick_run xs.reverse 0 xs.length (by simp)
  have h3 : (List.range xs.length).map (fun k => 0 + k) = List.range xs.length := by simp
  rw [h3] at h2
  rw [h2, List.drop_zero, List.take_of_length_le (by simp)]
theorem e_rev {l : List PyData} {f : Fl} : aSliceV none none (some (-1)) ⟨.list l, f⟩ = some (V.newL l.reverse f) := by
  unfold aSliceV
  show Option.map _ (if (some (-1) : Option Int) = some 0 then none else some (PyData.list ((sliceIdx none none (some (-1)) l.length).filterMap (l[·]?)))) = _
  rw [if_neg (by decide), rev_idx, rev_pick]; rfl
theorem flats_plots (ps : Plots) : flats (ps.map plotP) = true := by
  induction ps with
  | nil => rfl
  | cons p ps ih => rw [List.map_cons, plotP, fl_tup, flats_plot, ih]; rfl
theorem newL_plots (ps : Plots) (f : Fl) : V.newL (ps.map plotP) f = ⟨.list (ps.map plotP), .d⟩ := by unfold V.newL; rw [if_pos (flats_plots ps)]
theorem e_eqo {n : List Nat} {o : Option (List Nat)} : aCmp .Eq (strP n) (optP o) = some (decide (some n = o)) := by
  cases o with
  | none => rfl
  | some x => rw [optP, e_eqs, S_beq]; simp
theorem lawout_ok (B : Bui hb) (D : DefAt hb "_law_outward" (fnS pw 12) ["_law_plots_here", "_law_plot"] (fnB pw 12)) : ∃ m, DefG pw w hb 2 "_law_outward" m ∧ ∀ (ps : Plots) (n : List Nat), ps.length ≤ 900 → m [.list (ps.map plotP), strP n] = some (.list ((scan ps.reverse (some n)).map strP)) := by
  refine ⟨_, DefG.of D (n := 1) (St.cons (S1.ownList Evs.nil (by decide +kernel))
    (St.cons (S1.for (It.data (Ev.slice Ev.v Pt.no Pt.no (Pt.yes (Ev.neg Ev.cint)) (by intro _ _; exact ⟨_, rfl⟩)) (by intro _ _; rfl)) (Tg.tuple (xs := ["_law_name", "_law_outer"]) (by decide +kernel) rfl (by intro _; rfl)) (St.cons (S1.if (Tr.cmp Ev.v Ev.v) (St.cons (S1.append Ev.v (by decide +kernel) (by intro _; rfl) (by rfl) (by intro env h; unfold interactive; rw [h]; rfl))
        (St.cons (S1.assign Ev.v (by decide +kernel))
        St.nil)) St.nil)
      St.nil))
    (St.cons (S1.retOwn (by decide +kernel))
    St.nil))) _ (fun _ _ h => h), ?_⟩
  intro ps n hlen
  refine fn_ret rfl ?_
  refine seq (by simp only [run_eq, le_line, fls_nil, Option.bind_some, if_true, List.map_nil, List.length_nil, and_self, Nat.reduceLeDiff]; rfl) ?_
  refine seqE (fun ρ => ρ "_law_found" = some (.own (.lst ((scan ps.reverse (some n)).map strP)))) ?_ ?_
  · refine for_run (ps.reverse.map plotP) .d (by simp only [itr_eq, e_set, cond_true, cond_false, e_rho_nil, e_rho, e_fstr, e_flist, e_rv, String.reduceBEq, Option.bind_eq_bind, Option.bind_some, Int.reduceNeg, e_rev, itemsOf, ← List.map_reverse, newL_plots]) (by decide) ?_
    refine (forD_inv' (fun i ρ => ∃ (fs : List (List Nat)) (cur : Option (List Nat)), ρ "_law_found" = some (.own (.lst (fs.map strP))) ∧ ρ "_law_plot" = some (.val ⟨optP cur, .d⟩) ∧ fs.length ≤ i ∧ fs ++ scan (ps.reverse.drop i) cur = scan ps.reverse (some n)) ?_ ?_).imp fun ρ' h => ⟨h.1, ?_⟩
    · exact ⟨[], some n, by simp only [e_set, cond_true, cond_false, e_rho_nil, e_rho, e_fstr, e_flist, String.reduceBEq, List.map_nil], by simp only [e_set, cond_true, cond_false, e_rho_nil, e_rho, e_fstr, e_flist, String.reduceBEq]; rfl, Nat.le_refl _, by simp⟩
    · rintro i x ρ hx ⟨fs, cur, h1, h2, h3, h4⟩
      rw [List.getElem?_map] at hx
      obtain ⟨p, hp, rfl⟩ := Option.map_eq_some_iff.mp hx
      have hi := (List.getElem?_eq_some_iff.mp hp).1
      have hd : ps.reverse.drop i = p :: ps.reverse.drop (i + 1) := by
        rw [List.drop_eq_getElem_cons hi]; congr 1
        exact (List.getElem?_eq_some_iff.mp hp).2
      rw [hd, scan] at h4
      refine ⟨_, by simp only [e_putRd, e_tup, e_putn, e_putc, fix_d, Option.bind_some, List.map_cons, List.map_nil, plotP]; rfl, ?_⟩
      have hl : (fs.map strP).length + 1 ≤ sizeLine := le_line (by simp at hi ⊢; lia)
      by_cases hc : some p.1 = cur
      · rw [if_pos hc] at h4
        refine seqN (ifR_yes (by simp only [tst_eq, e_set, cond_true, cond_false, e_rv, String.reduceBEq, Option.bind_eq_bind, Option.bind_some, h2, e_eqo, decide_eq_true hc]) (seq (by simp only [run_eq, e_set, cond_true, cond_false, e_rv, String.reduceBEq, Option.bind_some, if_true, and_true, h1, hl]; rfl) (seq (by simp only [run_eq, e_set, cond_true, cond_false, e_rv, e_putd, String.reduceBEq, Option.bind_some]; rfl) rfl))) (doneN ⟨fs ++ [p.1], p.2, ?_, by simp only [e_set, cond_true, cond_false, String.reduceBEq], by simp; lia, by rw [← h4]; simp⟩)
        simp only [e_set, cond_true, cond_false, String.reduceBEq, List.map_cons, List.map_nil, List.map_append]
      · rw [if_neg hc] at h4
        exact seqN (ifR_no (by simp only [tst_eq, e_set, cond_true, cond_false, e_rv, String.reduceBEq, Option.bind_eq_bind, Option.bind_some, h2, e_eqo, decide_eq_false hc]) rfl) (doneN ⟨fs, cur, by simp only [e_set, cond_false, String.reduceBEq, h1], by simp only [e_set, cond_false, String.reduceBEq, h2], by lia, h4⟩)
    · obtain ⟨_, fs, cur, h1, _, _, h4⟩ := h
      rw [List.length_map, List.drop_length, scan, List.append_nil] at h4
      rw [h1, h4]
  · intro ρ hf
    simp only [run_eq, e_thr, Option.bind_some, hf]
theorem chain_tail {ps : Plots} {x : List Nat} {c : List (List Nat)} (h : Chain ps (x :: c)) : Chain ps c := fun i n hi => by simpa using h (i + 1) n (by simpa using hi)
theorem scan_chain (l : List Int) : ∀ k, k ≤ (plotsS l).length → ∀ j, j < k → ∀ c, Chain (plotsS l) c → c[0]? = some (nameS l j) → scan ((plotsS l).take k).reverse (some (nameS l j)) = c := by
  intro k
  induction k with
  | zero => intro _ j hj; lia
  | succ k ih =>
    intro hk j hj c hc h0
    have hg := plots_get (l := l) (show k < (plotsS l).length by lia)
    rw [List.take_add_one, hg]
    simp only [Option.toList_some, List.reverse_append, List.reverse_cons, List.reverse_nil, List.nil_append, List.singleton_append]
    rw [scan]
    show (if some (nameS l k) = some (nameS l j) then nameS l k :: scan ((plotsS l).take k).reverse (outerS l k) else scan ((plotsS l).take k).reverse (some (nameS l j))) = c
    by_cases e : j = k
    · subst e
      rw [if_pos rfl]
      cases c with
      | nil => simp at h0
      | cons x c =>
        simp at h0
        subst h0
        have ht := chain_tail hc
        have hl := hc 0 _ rfl
        rw [plots_lookup (show j < (plotsS l).length by lia)] at hl
        simp only [Option.some.injEq, List.getElem?_cons_succ] at hl
        congr 1
        rw [hl]
        cases hc0 : c[0]? with
        | none =>
          rw [scan_none]
          cases c with
          | nil => rfl
          | cons y c => simp at hc0
        | some y =>
          rw [hc0] at hl
          have hp := pick_le l j
          unfold outerS at hl
          split at hl
          · (have e := si hl; subst e; clear hl)
            rename_i hlt
            exact ih (by lia) (pickS l j).toNat (by lia) c ht hc0
          · exact no hl
    · rw [if_neg (fun h => e (name_inj (Option.some.inj h)).symm)]
      exact ih (by lia) j (by lia) c hc h0
theorem scan_all {l : List Int} {p : List Nat} (hp : p ∈ (plotsS l).map (·.1)) : ∃ c, Chain (plotsS l) c ∧ c[0]? = some p ∧ c.length ≤ 90 ∧ scan (plotsS l).reverse (some p) = c := by
  obtain ⟨c, h1, h2, h3⟩ := names_chain hp
  refine ⟨c, h1, h2, h3, ?_⟩
  rw [plots_fst] at hp
  obtain ⟨j, hj, rfl⟩ := List.mem_map.mp hp
  have := List.mem_range.mp hj
  have hl := plots_len l
  have := scan_chain l (plotsS l).length (Nat.le_refl _) j (by lia) c h1 h2
  rwa [List.take_length] at this
structure Sta where
  opn : List (List Nat × Int)
  held : List (List Nat × Int)
  worth : List (Int × Int)
  told : List Int
  given : List Int
  many : Int
noncomputable def pairP (p : List Nat × Int) : PyData := .tuple [strP p.1, .int p.2]
noncomputable def wvP (p : Int × Int) : PyData := .list [.int p.1, .int p.2]
noncomputable def entH (p : List Nat × Int) : Str × PyData := (S p.1, .int p.2)
noncomputable def heldP (h : List (List Nat × Int)) : PyData := dictOf (h.map entH)
noncomputable def staP (st : Sta) : PyData := dictOf [(Str.ofString "open", .list (st.opn.map pairP)), (Str.ofString "held", heldP st.held), (Str.ofString "worth", .list (st.worth.map wvP)), (Str.ofString "told", .list (intsP st.told)), (Str.ofString "given", .list (intsP st.given)), (Str.ofString "many", .int st.many)]
noncomputable def sta0 : Sta := ⟨[], [], [], [], [], 0⟩
theorem st_open (st : Sta) : aIdx (staP st) (.str (Str.ofString "open")) = some (.list (st.opn.map pairP)) := by kernel_rfl
theorem st_held (st : Sta) : aIdx (staP st) (.str (Str.ofString "held")) = some (heldP st.held) := by kernel_rfl
theorem st_worth (st : Sta) : aIdx (staP st) (.str (Str.ofString "worth")) = some (.list (st.worth.map wvP)) := by kernel_rfl
theorem st_told (st : Sta) : aIdx (staP st) (.str (Str.ofString "told")) = some (.list (intsP st.told)) := by kernel_rfl
theorem st_given (st : Sta) : aIdx (staP st) (.str (Str.ofString "given")) = some (.list (intsP st.given)) := by kernel_rfl
theorem st_many (st : Sta) : aIdx (staP st) (.str (Str.ofString "many")) = some (.int st.many) := by kernel_rfl
theorem e_rt {r : Option Addr} {x : PyData} : rdVar (.own (.tree r x)) = some ⟨x, .t⟩ := rfl
theorem fix_sta (st : Sta) (f : Fl) : V.fix (staP st) f = ⟨staP st, f⟩ := rfl
theorem fix_held (h : List (List Nat × Int)) (f : Fl) : V.fix (heldP h) f = ⟨heldP h, f⟩ := rfl
theorem fix_pair (p : List Nat × Int) (f : Fl) : V.fix (pairP p) f = ⟨pairP p, .d⟩ := rfl
theorem fix_val (p : Int × Int) (f : Fl) : V.fix (wvP p) f = ⟨wvP p, f⟩ := rfl
theorem held_at (n : List Nat) : ∀ h : List (List Nat × Int), aIdx (heldP h) (strP n) = (h.lookup n).map .int
  | [] => rfl
  | p :: h => by
    show atKey (S n) ((.str (S p.1), .int p.2) :: (h.map entH).map fun p => (.str p.1, p.2)) = _
    rw [atKey, List.lookup_cons]
    by_cases e : n = p.1
    · subst e; rw [if_pos rfl, beq_self_eq_true]; rfl
    · rw [if_neg fun q => e (S_inj q).symm, beq_eq_false_iff_ne.mpr e]; exact held_at n h
theorem held_in (n : List Nat) : ∀ h : List (List Nat × Int), hasKey (S n) ((h.map entH).map fun p => (.str p.1, p.2)) = (h.lookup n).isSome
  | [] => rfl
  | p :: h => by
    show (decide (S p.1 = S n) || hasKey (S n) ((h.map entH).map fun p => (.str p.1, p.2))) = _
    rw [held_in n h, List.lookup_cons]
    by_cases e : n = p.1
    · subst e; rw [decide_eq_true rfl, beq_self_eq_true]; rfl
    · rw [decide_eq_false fun q => e (S_inj q).symm, beq_eq_false_iff_ne.mpr e]; rfl
theorem e_notin_held (n : List Nat) (h : List (List Nat × Int)) : aCmp .NotIn (strP n) (heldP h) = some (!(h.lookup n).isSome) := by
  show (inD (S n) ((h.map entH).map fun p => (.str p.1, p.2))).map (fun b => !b) = _
  rw [inD_map (fun p : Str × PyData => p.1) (fun p => p.2), held_in]; rfl
theorem e_in_ints (i : Int) (l : List Int) : aCmp .In (.int i) (.list (intsP l)) = some (decide (i ∈ l)) := by
  have h : ∀ l : List Int, (nd (.int i) && nds (intsP l) && decide (min (PyData.depthAll (intsP l)) (PyData.int i).depth ≤ 60)) = true := fun l => by
    rw [Bool.and_eq_true, Bool.and_eq_true]
    exact ⟨⟨rfl, nds_map plain_int l⟩, decide_eq_true (Nat.le_trans (Nat.min_le_right _ _) (Nat.le_trans (plain_int i).2 (by decide)))⟩
  show inSeq _ _ = _
  unfold inSeq
  rw [if_pos (h l)]
  congr 1
  induction l with
  | nil => rfl
  | cons x l ih =>
    show (PyData.eqv (.int x) (.int i) || (intsP l).any fun y => PyData.eqv y (.int i)) = _
    rw [ih, show PyData.eqv (.int x) (.int i) = (x == i) from by rw [PyData.eqv]]
    by_cases e : x = i
    · subst e; simp
    · simp [e, Ne.symm e]
theorem worth_at {st : Sta} {i : Int} {p : Int × Int} (h0 : 0 ≤ i) (h : st.worth[i.toNat]? = some p) : aIdx (.list (st.worth.map wvP)) (.int i) = some (wvP p) := by
  rw [e_idx_l, seqAt_nat h0, List.getElem?_map, h]; rfl
theorem val0 (p : Int × Int) : aIdx (wvP p) (.int 0) = some (.int p.1) := rfl
theorem val1 (p : Int × Int) : aIdx (wvP p) (.int 1) = some (.int p.2) := rfl
noncomputable def HeldOk (st : Sta) (n : List Nat) : Prop := ∀ i, st.held.lookup n = some i → 0 ≤ i ∧ i.toNat < st.worth.length
noncomputable def homeOf (st : Sta) (i : Int) : Int := ((st.worth[i.toNat]?).getD (0, 0)).2
noncomputable def amountOf (st : Sta) (i : Int) : Int := ((st.worth[i.toNat]?).getD (0, 0)).1
noncomputable def lackT (st : Sta) (n : List Nat) : String := match st.held.lookup n with
  | none => "nothing"
  | some i => if homeOf st i ∈ st.opn.map (·.2) then "" else "gone"
theorem opn_nums (o : List (List Nat × Int)) : (o.map fun p => PyData.int p.2) = intsP (o.map (·.2)) := by unfold intsP; rw [List.map_map]; rfl
theorem lack9_ok (B : Bui hb) (D : DefAt hb "_law_lack" (fnS pw 14) ["_law_state", "_law_name"] (fnB pw 14)) : ∃ m, DefG pw w hb 2 "_law_lack" m ∧ ∀ (st : Sta) (n : List Nat), HeldOk st n → m [staP st, strP n] = some (strT (lackT st n)) := by
  refine ⟨_, DefG.of D (n := 1) (St.cons (S1.if (Tr.cmp Ev.v (Ev.idx Ev.v Ev.s)) (St.cons (S1.ret Ev.s)
      St.nil) St.nil)
    (St.cons (S1.assign (Ev.idx (Ev.idx (Ev.idx Ev.v Ev.s) (Ev.idx (Ev.idx Ev.v Ev.s) Ev.v)) Ev.cint) (by decide +kernel))
    (St.cons (S1.if (Tr.cmp Ev.v (Ev.comp (locs := [".0", "_law_plot", "_law_number"]) (by decide +kernel) (It.data (Ev.idx Ev.v Ev.s) (by intro _ _; rfl)) (TgL.tuple (xs := ["_law_plot", "_law_number"]) (by decide +kernel) (by decide +kernel) rfl (by intro _; rfl)) Ifs.nil Ev.v)) (St.cons (S1.ret Ev.s)
      St.nil) St.nil)
    (St.cons (S1.ret Ev.s)
    St.nil)))) _ (fun _ _ h => h), ?_⟩
  intro st n hh
  refine fn_ret rfl ?_
  cases hl : st.held.lookup n with
  | none =>
    rw [show lackT st n = "nothing" by unfold lackT; rw [hl]]
    exact seqRet (ifR_yes (by simp only [tst_eq, cond_true, cond_false, e_rho_nil, e_rho, e_fstr, e_rv, String.reduceBEq, Option.bind_eq_bind, Option.bind_some, Bool.not_false, fix_sta, st_held, fix_held, e_notin_held, hl, Option.isSome_none]) (by kernel_rfl))
  | some i =>
    rw [show lackT st n = if homeOf st i ∈ st.opn.map (·.2) then "" else "gone" by unfold lackT; rw [hl]]
    obtain ⟨h0, h1⟩ := hh i hl
    have hp : st.worth[i.toNat]? = some st.worth[i.toNat] := List.getElem?_eq_getElem h1
    have hho : homeOf st i = st.worth[i.toNat].2 := by unfold homeOf; rw [hp]; rfl
    have hha : aIdx (heldP st.held) (strP n) = some (.int i) := by rw [held_at, hl]; rfl
    refine seq (ifR_no (by simp only [tst_eq, cond_true, cond_false, e_rho_nil, e_rho, e_fstr, e_rv, String.reduceBEq, Option.bind_eq_bind, Option.bind_some, Bool.not_true, fix_sta, st_held, fix_held, e_notin_held, hl, Option.isSome_some]) rfl) ?_
    refine seq (by simp only [fix_sta, run_eq, cond_true, cond_false, e_rho_nil, e_rho, e_fint, e_fstr, e_flist, e_rv, e_putd, String.reduceBEq, Option.bind_eq_bind, Option.bind_some, st_worth, st_held, fix_held, hha, worth_at h0 hp, fix_val, val1]; rfl) ?_
    rw [← hho]
    by_cases hin : homeOf st i ∈ st.opn.map (·.2)
    · rw [if_pos hin]
      refine seqRet (ifR_yes (by
        simp only [tst_eq, e_set, cond_true, cond_false, e_rho_nil, e_rho, e_fstr, e_flist, e_rv, String.reduceBEq, Option.bind_eq_bind, Option.bind_some, fix_sta, st_open, compV, itemsOf]
        rw [comp_map pairP (fun p => .int p.2) (fun p _ => by simp only [e_set, cond_true, cond_false, e_rho_nil, e_rho, e_fstr, e_ftup, e_rv, e_putRd, e_tup, e_putn, e_putc, e_inc, memS_nil, memS_cons, Bool.false_or, fix_d, fl_nil, fl_int, fl_str, String.reduceBEq, Option.bind_some, Option.bind_none, if_true, List.map_cons, List.map_nil, cstep, pairP]), opn_nums]
        simp only [Option.bind_some, Option.map_some, e_in_ints, decide_eq_true hin]) (by kernel_rfl))
    · rw [if_neg hin]
      refine seq (ifR_no (by
        simp only [tst_eq, e_set, cond_true, cond_false, e_rho_nil, e_rho, e_fstr, e_flist, e_rv, String.reduceBEq, Option.bind_eq_bind, Option.bind_some, fix_sta, st_open, compV, itemsOf]
        rw [comp_map pairP (fun p => .int p.2) (fun p _ => by simp only [e_set, cond_true, cond_false, e_rho_nil, e_rho, e_fstr, e_ftup, e_rv, e_putRd, e_tup, e_putn, e_putc, e_inc, memS_nil, memS_cons, Bool.false_or, fix_d, fl_nil, fl_int, fl_str, String.reduceBEq, Option.bind_some, Option.bind_none, if_true, List.map_cons, List.map_nil, cstep, pairP]), opn_nums]
        simp only [Option.bind_some, Option.map_some, e_in_ints, decide_eq_false hin]) rfl) (by kernel_rfl)
noncomputable def upOf (st : Sta) : List (List Nat) := st.opn.map (·.1)
noncomputable def wrongT (c : List (List Nat)) (st : Sta) (r : Row) : String := match r with
  | .op p => if p ∈ upOf st then "open already" else match c[1]? with
    | some q => if q ∈ upOf st then "" else "not open"
    | none => ""
  | .lay _ p _ => if p ∈ upOf st then "" else "not open"
  | .copy _ o p => if lackT st o = "" then (if p ∈ upOf st then "" else "not open") else lackT st o
  | .same _ o => if (st.held.lookup o).isSome then "" else "nothing"
  | .add n o => if lackT st n = "" then lackT st o else lackT st n
  | .tell n => lackT st n
  | .give p => if p ∈ upOf st then "" else "not open"
  | .fin => if upOf st = [] then "" else "left"
  | _ => ""
theorem e_notin_strs (p : List Nat) (c : List (List Nat)) : aCmp .NotIn (strP p) (.list (c.map strP)) = some (!decide (p ∈ c)) := by
  show (cmpIn _ _).map _ = _
  rw [show cmpIn (strP p) (.list (c.map strP)) = some (decide (p ∈ c)) from e_in_strs p c]; rfl
theorem lackT_cases (st : Sta) (n : List Nat) : lackT st n = "nothing" ∨ lackT st n = "gone" ∨ lackT st n = "" := by
  unfold lackT
  split
  · exact .inl rfl
  · split
    · exact .inr (.inr rfl)
    · exact .inr (.inl rfl)
theorem opn_names (o : List (List Nat × Int)) : (o.map fun p => strP p.1) = (o.map (·.1)).map strP := by rw [List.map_map]; rfl
noncomputable def asksOf : Row → List (List Nat)
  | .copy _ o _ => [o]
  | .add n o => [n, o]
  | .tell n => [n]
  | _ => []
theorem wrong9_ok (B : Bui hb) (D : DefAt hb "_law_wrong" (fnS pw 15) ["_law_plots_here", "_law_state", "_law_row_here"] (fnB pw 15)) {m_lo m_la : List PyData → Option PyData} (h_law_outward : DefG pw w hb 2 "_law_outward" m_lo) (e_lo : ∀ (ps : Plots) (n : List Nat), ps.length ≤ 900 → m_lo [.list (ps.map plotP), strP n] = some (.list ((scan ps.reverse (some n)).map strP)))
    (h_law_lack : DefG pw w hb 2 "_law_lack" m_la) (e_la : ∀ (st : Sta) (n : List Nat), HeldOk st n → m_la [staP st, strP n] = some (strT (lackT st n))) :
    ∃ m, DefG pw w hb 3 "_law_wrong" m ∧ ∀ (ps : Plots) (st : Sta) (r : Row) (c : List (List Nat)), ps.length ≤ 900 → (∀ n ∈ asksOf r, HeldOk st n) → (∀ p, r = .op p → scan ps.reverse (some p) = c ∧ c.length ≤ 900) →
      m [.list (ps.map plotP), staP st, rowP r] = some (strT (wrongT c st r)) := by
  refine ⟨_, DefG.of D (n := 2) (St.cons (S1.assign (Ev.idx Ev.v Ev.cint) (by decide +kernel))
    (St.cons (S1.assignComp (locs := [".0", "_law_plot", "_law_number"]) (by decide +kernel) (It.data (Ev.idx Ev.v Ev.s) (by intro _ _; rfl)) (TgL.tuple (xs := ["_law_plot", "_law_number"]) (by decide +kernel) (by decide +kernel) rfl (by intro _; rfl)) Ifs.nil Ev.v (by decide +kernel))
    (St.cons (S1.if (Tr.cmp Ev.v Ev.s) (St.cons (S1.if (Tr.cmp (Ev.idx Ev.v Ev.cint) Ev.v) (St.cons (S1.ret Ev.s)
        St.nil) St.nil)
      (St.cons (S1.assign (Ev.def h_law_outward (Evs.cons Ev.v (Evs.cons (Ev.idx Ev.v Ev.cint) Evs.nil)) (by decide +kernel) (by decide) (by intro _; rfl)) (by decide +kernel))
      (St.cons (S1.if (Tr.all (Trs.consAnd (Tr.cmp (Ev.len B (Evs.cons Ev.v Evs.nil) (by decide +kernel) (by intro _; rfl)) Ev.cint) (Trs.consAnd (Tr.cmp (Ev.idx Ev.v Ev.cint) Ev.v) Trs.nilAnd))) (St.cons (S1.ret Ev.s)
        St.nil) St.nil)
      (St.cons (S1.ret Ev.s)
      St.nil)))) St.nil)
    (St.cons (S1.if (Tr.all (Trs.consAnd (Tr.cmp Ev.v Ev.s) (Trs.consAnd (Tr.cmp (Ev.idx Ev.v Ev.cint) (Ev.idx Ev.v Ev.s)) Trs.nilAnd))) (St.cons (S1.ret Ev.s)
      St.nil) St.nil)
    (St.cons (S1.assign (Ev.dict (Prs.cons (Ev.tuple (Evs.cons Ev.cint Evs.nil)) (Prs.cons (Ev.tuple (Evs.cons Ev.cint (Evs.cons Ev.cint Evs.nil))) (Prs.cons (Ev.tuple (Evs.cons Ev.cint Evs.nil)) Prs.nil (by decide +kernel)) (by decide +kernel)) (by decide +kernel)) (by rfl) (by rfl) (by intro h; cases h) (by decide)) (by decide +kernel))
    (St.cons (S1.if (Tr.cmp Ev.v Ev.v) (St.cons (S1.for (It.data (Ev.idx Ev.v Ev.v) (by intro _ _; rfl)) (Tg.name (by decide +kernel)) (St.cons (S1.if (Tr.cmp (Ev.def h_law_lack (Evs.cons Ev.v (Evs.cons (Ev.idx Ev.v Ev.v) Evs.nil)) (by decide +kernel) (by decide) (by intro _; rfl)) Ev.s) (St.cons (S1.ret (Ev.def h_law_lack (Evs.cons Ev.v (Evs.cons (Ev.idx Ev.v Ev.v) Evs.nil)) (by decide +kernel) (by decide) (by intro _; rfl)))
          St.nil) St.nil)
        St.nil))
      St.nil) St.nil)
    (St.cons (S1.assign (Ev.dict (Prs.cons Ev.cint (Prs.cons Ev.cint (Prs.cons Ev.cint Prs.nil (by decide +kernel)) (by decide +kernel)) (by decide +kernel)) (by rfl) (by rfl) (by intro h; cases h) (by decide)) (by decide +kernel))
    (St.cons (S1.if (Tr.all (Trs.consAnd (Tr.cmp Ev.v Ev.v) (Trs.consAnd (Tr.cmp (Ev.idx Ev.v (Ev.idx Ev.v Ev.v)) Ev.v) Trs.nilAnd))) (St.cons (S1.ret Ev.s)
      St.nil) St.nil)
    (St.cons (S1.if (Tr.all (Trs.consAnd (Tr.cmp Ev.v Ev.s) (Trs.consAnd (Tr.cmp Ev.v (Ev.list Evs.nil)) Trs.nilAnd))) (St.cons (S1.ret Ev.s)
      St.nil) St.nil)
    (St.cons (S1.ret Ev.s)
    St.nil)))))))))) _ (fun _ _ h => h), ?_⟩
  intro ps st r c hlen hh hc
  refine fn_ret rfl ?_
  refine seqPut (.str (Str.ofString r.parts.1)) (by kernel_rfl) ?_
  refine seq (by
    simp only [run_eq, e_set, cond_true, cond_false, e_rho_nil, e_rho, e_flist, e_rv, String.reduceBEq, Option.bind_eq_bind, Option.bind_some, fix_sta, st_open, compV, itemsOf]
    rw [comp_map pairP (fun p => strP p.1) (fun p _ => by cases p; kernel_rfl), opn_names]
    simp only [Option.map_some]; rfl) ?_
  have hup : st.opn.map (·.1) = upOf st := rfl
  rw [hup]
  cases r with
  | op p =>
    obtain ⟨hc1, hc2⟩ := hc p rfl
    have ho := e_lo ps p hlen
    rw [hc1] at ho
    refine seqRet (ifR_yes (by kernel_rfl) ?_)
    by_cases h1 : p ∈ upOf st
    · rw [show wrongT c st (.op p) = "open already" from if_pos h1]
      exact seqRet (ifR_yes (Eq.trans (b := aCmp .In (strP p) (.list ((upOf st).map strP))) (by kernel_rfl) (by rw [e_in_strs, decide_eq_true h1])) (by kernel_rfl))
    · rw [show wrongT c st (.op p) = (match c[1]? with | some q => if q ∈ upOf st then "" else "not open" | none => "") from if_neg h1]
      refine seq (ifR_no (Eq.trans (b := aCmp .In (strP p) (.list ((upOf st).map strP))) (by kernel_rfl) (by rw [e_in_strs, decide_eq_false h1])) rfl) ?_
      refine seqPut (.list (c.map strP)) (Eq.trans (b := (m_lo [.list (ps.map plotP), strP p]).map fun y => (⟨y, .d⟩ : V)) (by kernel_rfl) (by rw [ho]; rfl)) ?_
      clear hc hc1 ho
      match c, hc2 with
      | [], _ => exact seq (ifR_no (by kernel_rfl) rfl) (by kernel_rfl)
      | [a], _ => exact seq (ifR_no (by kernel_rfl) rfl) (by kernel_rfl)
      | a :: q :: t, hc2 =>
        show _ = some (Out.ret (strT (if q ∈ upOf st then "" else "not open")))
        have hgt : decide (((((a :: q :: t).map strP).length : Nat) : Int) > 1) = true := decide_eq_true (by simp; lia)
        by_cases h2 : q ∈ upOf st
        · rw [if_pos h2]
          refine seq (ifR_no (Eq.trans (b := (some (decide (((((a :: q :: t).map strP).length : Nat) : Int) > 1))).bind fun c => if c = true then (aCmp .NotIn (strP q) (.list ((upOf st).map strP))).bind fun c => if c = true then some true else some false else some false) (by kernel_rfl) (by rw [hgt]; simp only [Option.bind_some, if_true]; rw [e_notin_strs, decide_eq_true h2]; rfl)) rfl) (by kernel_rfl)
        · rw [if_neg h2]
          exact seqRet (ifR_yes (Eq.trans (b := (some (decide (((((a :: q :: t).map strP).length : Nat) : Int) > 1))).bind fun c => if c = true then (aCmp .NotIn (strP q) (.list ((upOf st).map strP))).bind fun c => if c = true then some true else some false else some false) (by kernel_rfl) (by rw [hgt]; simp only [Option.bind_some, if_true]; rw [e_notin_strs, decide_eq_false h2]; rfl)) (by kernel_rfl))
  | lay n p i =>
    show _ = some (Out.ret (strT (if p ∈ upOf st then "" else "not open")))
    refine seq (ifR_no (by kernel_rfl) rfl) (seq (ifR_no (by kernel_rfl) rfl) (seqPut (dictOf [(Str.ofString "copy", .tuple [.int 2]), (Str.ofString "add", .tuple [.int 1, .int 2]), (Str.ofString "tell", .tuple [.int 1])]) (by kernel_rfl) (seq (ifR_no (by kernel_rfl) rfl) ?_)))
    refine seqPut (dictOf [(Str.ofString "lay", .int 2), (Str.ofString "copy", .int 3), (Str.ofString "give", .int 1)]) (by kernel_rfl) ?_
    by_cases h1 : p ∈ upOf st
    · rw [if_pos h1]
      exact seq (ifR_no (Eq.trans (b := (aCmp .NotIn (strP p) (.list ((upOf st).map strP))).bind fun c => if c = true then some true else some false) (by kernel_rfl) (by rw [e_notin_strs, decide_eq_true h1]; rfl)) rfl) (by kernel_rfl)
    · rw [if_neg h1]
      exact seqRet (ifR_yes (Eq.trans (b := (aCmp .NotIn (strP p) (.list ((upOf st).map strP))).bind fun c => if c = true then some true else some false) (by kernel_rfl) (by rw [e_notin_strs, decide_eq_false h1]; rfl)) (by kernel_rfl))
  | copy n o p =>
    have ola := e_la st o (hh o (.head _))
    refine seq (ifR_no (by kernel_rfl) rfl) (seq (ifR_no (by kernel_rfl) rfl) (seqPut (dictOf [(Str.ofString "copy", .tuple [.int 2]), (Str.ofString "add", .tuple [.int 1, .int 2]), (Str.ofString "tell", .tuple [.int 1])]) (by kernel_rfl) ?_))
    rcases lackT_cases st o with oh | oh | oh
    · rw [show wrongT c st (.copy n o p) = lackT st o from if_neg (by rw [oh]; decide), oh]
      exact seqRet (ifR_yes (by kernel_rfl) (seqRet (forR [.int 2] .d (by kernel_rfl) (by decide) (forD_ret rfl (seqRet (ifR_yes (Eq.trans (b := ((m_la [staP st, strP o]).map fun y => (⟨y, .d⟩ : V)).bind fun v => aCmp .NotEq v.x (strT "")) (by kernel_rfl) (by rw [ola, oh]; kernel_rfl)) (seqRet (run_of (b := ((m_la [staP st, strP o]).map fun y => (⟨y, .d⟩ : V)).bind retV) (by kernel_rfl) (by rw [ola, oh]; rfl)))))))))
    · rw [show wrongT c st (.copy n o p) = lackT st o from if_neg (by rw [oh]; decide), oh]
      exact seqRet (ifR_yes (by kernel_rfl) (seqRet (forR [.int 2] .d (by kernel_rfl) (by decide) (forD_ret rfl (seqRet (ifR_yes (Eq.trans (b := ((m_la [staP st, strP o]).map fun y => (⟨y, .d⟩ : V)).bind fun v => aCmp .NotEq v.x (strT "")) (by kernel_rfl) (by rw [ola, oh]; kernel_rfl)) (seqRet (run_of (b := ((m_la [staP st, strP o]).map fun y => (⟨y, .d⟩ : V)).bind retV) (by kernel_rfl) (by rw [ola, oh]; rfl)))))))))
    · rw [show wrongT c st (.copy n o p) = if p ∈ upOf st then "" else "not open" from if_pos oh]
      refine seq (ifR_yes (by kernel_rfl) (seq (forR [.int 2] .d (by kernel_rfl) (by decide) (forD_next rfl (seq (ifR_no (Eq.trans (b := ((m_la [staP st, strP o]).map fun y => (⟨y, .d⟩ : V)).bind fun v => aCmp .NotEq v.x (strT "")) (by kernel_rfl) (by rw [ola, oh]; kernel_rfl)) rfl) rfl) rfl)) rfl)) ?_
      refine seqPut (dictOf [(Str.ofString "lay", .int 2), (Str.ofString "copy", .int 3), (Str.ofString "give", .int 1)]) (by kernel_rfl) ?_
      by_cases h1 : p ∈ upOf st
      · rw [if_pos h1]
        exact seq (ifR_no (Eq.trans (b := (aCmp .NotIn (strP p) (.list ((upOf st).map strP))).bind fun c => if c = true then some true else some false) (by kernel_rfl) (by rw [e_notin_strs, decide_eq_true h1]; rfl)) rfl) (by kernel_rfl)
      · rw [if_neg h1]
        exact seqRet (ifR_yes (Eq.trans (b := (aCmp .NotIn (strP p) (.list ((upOf st).map strP))).bind fun c => if c = true then some true else some false) (by kernel_rfl) (by rw [e_notin_strs, decide_eq_false h1]; rfl)) (by kernel_rfl))
  | same n o =>
    show _ = some (Out.ret (strT (if (st.held.lookup o).isSome then "" else "nothing")))
    refine seq (ifR_no (by kernel_rfl) rfl) ?_
    cases hs : (st.held.lookup o).isSome with
    | true => exact seq (ifR_no (Eq.trans (b := (aCmp .NotIn (strP o) (heldP st.held)).bind fun c => if c = true then some true else some false) (by kernel_rfl) (by rw [e_notin_held, hs]; rfl)) rfl) (by kernel_rfl)
    | false => exact seqRet (ifR_yes (Eq.trans (b := (aCmp .NotIn (strP o) (heldP st.held)).bind fun c => if c = true then some true else some false) (by kernel_rfl) (by rw [e_notin_held, hs]; rfl)) (by kernel_rfl))
  | add n o =>
    have nla := e_la st n (hh n (.head _))
    have ola := e_la st o (hh o (.tail _ (.head _)))
    refine seq (ifR_no (by kernel_rfl) rfl) (seq (ifR_no (by kernel_rfl) rfl) (seqPut (dictOf [(Str.ofString "copy", .tuple [.int 2]), (Str.ofString "add", .tuple [.int 1, .int 2]), (Str.ofString "tell", .tuple [.int 1])]) (by kernel_rfl) ?_))
    rcases lackT_cases st n with nh | nh | nh
    · rw [show wrongT c st (.add n o) = lackT st n from if_neg (by rw [nh]; decide), nh]
      exact seqRet (ifR_yes (by kernel_rfl) (seqRet (forR [.int 1, .int 2] .d (by kernel_rfl) (by decide) (forD_ret rfl (seqRet (ifR_yes (Eq.trans (b := ((m_la [staP st, strP n]).map fun y => (⟨y, .d⟩ : V)).bind fun v => aCmp .NotEq v.x (strT "")) (by kernel_rfl) (by rw [nla, nh]; kernel_rfl)) (seqRet (run_of (b := ((m_la [staP st, strP n]).map fun y => (⟨y, .d⟩ : V)).bind retV) (by kernel_rfl) (by rw [nla, nh]; rfl)))))))))
    · rw [show wrongT c st (.add n o) = lackT st n from if_neg (by rw [nh]; decide), nh]
      exact seqRet (ifR_yes (by kernel_rfl) (seqRet (forR [.int 1, .int 2] .d (by kernel_rfl) (by decide) (forD_ret rfl (seqRet (ifR_yes (Eq.trans (b := ((m_la [staP st, strP n]).map fun y => (⟨y, .d⟩ : V)).bind fun v => aCmp .NotEq v.x (strT "")) (by kernel_rfl) (by rw [nla, nh]; kernel_rfl)) (seqRet (run_of (b := ((m_la [staP st, strP n]).map fun y => (⟨y, .d⟩ : V)).bind retV) (by kernel_rfl) (by rw [nla, nh]; rfl)))))))))
    · rw [show wrongT c st (.add n o) = lackT st o from if_pos nh]
      rcases lackT_cases st o with oh | oh | oh
      · rw [oh]
        exact seqRet (ifR_yes (by kernel_rfl) (seqRet (forR [.int 1, .int 2] .d (by kernel_rfl) (by decide) (forD_next rfl (seq (ifR_no (Eq.trans (b := ((m_la [staP st, strP n]).map fun y => (⟨y, .d⟩ : V)).bind fun v => aCmp .NotEq v.x (strT "")) (by kernel_rfl) (by rw [nla, nh]; kernel_rfl)) rfl) rfl) (forD_ret rfl (seqRet (ifR_yes (Eq.trans (b := ((m_la [staP st, strP o]).map fun y => (⟨y, .d⟩ : V)).bind fun v => aCmp .NotEq v.x (strT "")) (by kernel_rfl) (by rw [ola, oh]; kernel_rfl)) (seqRet (run_of (b := ((m_la [staP st, strP o]).map fun y => (⟨y, .d⟩ : V)).bind retV) (by kernel_rfl) (by rw [ola, oh]; rfl))))))))))
      · rw [oh]
        exact seqRet (ifR_yes (by kernel_rfl) (seqRet (forR [.int 1, .int 2] .d (by kernel_rfl) (by decide) (forD_next rfl (seq (ifR_no (Eq.trans (b := ((m_la [staP st, strP n]).map fun y => (⟨y, .d⟩ : V)).bind fun v => aCmp .NotEq v.x (strT "")) (by kernel_rfl) (by rw [nla, nh]; kernel_rfl)) rfl) rfl) (forD_ret rfl (seqRet (ifR_yes (Eq.trans (b := ((m_la [staP st, strP o]).map fun y => (⟨y, .d⟩ : V)).bind fun v => aCmp .NotEq v.x (strT "")) (by kernel_rfl) (by rw [ola, oh]; kernel_rfl)) (seqRet (run_of (b := ((m_la [staP st, strP o]).map fun y => (⟨y, .d⟩ : V)).bind retV) (by kernel_rfl) (by rw [ola, oh]; rfl))))))))))
      · rw [oh]
        exact seq (ifR_yes (by kernel_rfl) (seq (forR [.int 1, .int 2] .d (by kernel_rfl) (by decide) (forD_next rfl (seq (ifR_no (Eq.trans (b := ((m_la [staP st, strP n]).map fun y => (⟨y, .d⟩ : V)).bind fun v => aCmp .NotEq v.x (strT "")) (by kernel_rfl) (by rw [nla, nh]; kernel_rfl)) rfl) rfl) (forD_next rfl (seq (ifR_no (Eq.trans (b := ((m_la [staP st, strP o]).map fun y => (⟨y, .d⟩ : V)).bind fun v => aCmp .NotEq v.x (strT "")) (by kernel_rfl) (by rw [ola, oh]; kernel_rfl)) rfl) rfl) rfl))) rfl)) (by kernel_rfl)
  | tell n =>
    have nla := e_la st n (hh n (.head _))
    show _ = some (Out.ret (strT (lackT st n)))
    refine seq (ifR_no (by kernel_rfl) rfl) (seq (ifR_no (by kernel_rfl) rfl) (seqPut (dictOf [(Str.ofString "copy", .tuple [.int 2]), (Str.ofString "add", .tuple [.int 1, .int 2]), (Str.ofString "tell", .tuple [.int 1])]) (by kernel_rfl) ?_))
    rcases lackT_cases st n with nh | nh | nh
    · rw [nh]
      exact seqRet (ifR_yes (by kernel_rfl) (seqRet (forR [.int 1] .d (by kernel_rfl) (by decide) (forD_ret rfl (seqRet (ifR_yes (Eq.trans (b := ((m_la [staP st, strP n]).map fun y => (⟨y, .d⟩ : V)).bind fun v => aCmp .NotEq v.x (strT "")) (by kernel_rfl) (by rw [nla, nh]; kernel_rfl)) (seqRet (run_of (b := ((m_la [staP st, strP n]).map fun y => (⟨y, .d⟩ : V)).bind retV) (by kernel_rfl) (by rw [nla, nh]; rfl)))))))))
    · rw [nh]
      exact seqRet (ifR_yes (by kernel_rfl) (seqRet (forR [.int 1] .d (by kernel_rfl) (by decide) (forD_ret rfl (seqRet (ifR_yes (Eq.trans (b := ((m_la [staP st, strP n]).map fun y => (⟨y, .d⟩ : V)).bind fun v => aCmp .NotEq v.x (strT "")) (by kernel_rfl) (by rw [nla, nh]; kernel_rfl)) (seqRet (run_of (b := ((m_la [staP st, strP n]).map fun y => (⟨y, .d⟩ : V)).bind retV) (by kernel_rfl) (by rw [nla, nh]; rfl)))))))))
    · rw [nh]
      exact seq (ifR_yes (by kernel_rfl) (seq (forR [.int 1] .d (by kernel_rfl) (by decide) (forD_next rfl (seq (ifR_no (Eq.trans (b := ((m_la [staP st, strP n]).map fun y => (⟨y, .d⟩ : V)).bind fun v => aCmp .NotEq v.x (strT "")) (by kernel_rfl) (by rw [nla, nh]; kernel_rfl)) rfl) rfl) rfl)) rfl)) (by kernel_rfl)
  | give p =>
    show _ = some (Out.ret (strT (if p ∈ upOf st then "" else "not open")))
    refine seq (ifR_no (by kernel_rfl) rfl) (seq (ifR_no (by kernel_rfl) rfl) (seqPut (dictOf [(Str.ofString "copy", .tuple [.int 2]), (Str.ofString "add", .tuple [.int 1, .int 2]), (Str.ofString "tell", .tuple [.int 1])]) (by kernel_rfl) (seq (ifR_no (by kernel_rfl) rfl) ?_)))
    refine seqPut (dictOf [(Str.ofString "lay", .int 2), (Str.ofString "copy", .int 3), (Str.ofString "give", .int 1)]) (by kernel_rfl) ?_
    by_cases h1 : p ∈ upOf st
    · rw [if_pos h1]
      exact seq (ifR_no (Eq.trans (b := (aCmp .NotIn (strP p) (.list ((upOf st).map strP))).bind fun c => if c = true then some true else some false) (by kernel_rfl) (by rw [e_notin_strs, decide_eq_true h1]; rfl)) rfl) (by kernel_rfl)
    · rw [if_neg h1]
      exact seqRet (ifR_yes (Eq.trans (b := (aCmp .NotIn (strP p) (.list ((upOf st).map strP))).bind fun c => if c = true then some true else some false) (by kernel_rfl) (by rw [e_notin_strs, decide_eq_false h1]; rfl)) (by kernel_rfl))
  | fork k => kernel_rfl
  | go k => kernel_rfl
  | fin =>
    have hne : aCmp .NotEq (.list ((upOf st).map strP)) (.list []) = some (!decide (upOf st = [])) := by
      have pn : plain 2 (.list []) := plain_list (k := 1) fun x hx => nomatch hx
      rw [e_ne (plain_mono (plain_map plain_strP _) (by decide)) (plain_mono pn (by decide))]
      cases upOf st <;> simp [PyData.eqv, PyData.eqvAll]
    show _ = some (Out.ret (strT (if upOf st = [] then "" else "left")))
    refine seq (ifR_no (by kernel_rfl) rfl) (seq (ifR_no (by kernel_rfl) rfl) (seqPut (dictOf [(Str.ofString "copy", .tuple [.int 2]), (Str.ofString "add", .tuple [.int 1, .int 2]), (Str.ofString "tell", .tuple [.int 1])]) (by kernel_rfl) (seq (ifR_no (by kernel_rfl) rfl) (seqPut (dictOf [(Str.ofString "lay", .int 2), (Str.ofString "copy", .int 3), (Str.ofString "give", .int 1)]) (by kernel_rfl) (seq (ifR_no (by kernel_rfl) rfl) ?_)))))
    by_cases h1 : upOf st = []
    · rw [if_pos h1]
      exact seq (ifR_no (Eq.trans (b := (aCmp .NotEq (.list ((upOf st).map strP)) (.list [])).bind fun c => if c = true then some true else some false) (by kernel_rfl) (by rw [hne, decide_eq_true h1]; rfl)) rfl) (by kernel_rfl)
    · rw [if_neg h1]
      exact seqRet (ifR_yes (Eq.trans (b := (aCmp .NotEq (.list ((upOf st).map strP)) (.list [])).bind fun c => if c = true then some true else some false) (by kernel_rfl) (by rw [hne, decide_eq_false h1]; rfl)) (by kernel_rfl))
noncomputable def putF (n : List Nat) (i : Int) : List (List Nat × Int) → List (List Nat × Int)
  | [] => []
  | p :: h => if p.1 = n then (p.1, i) :: h else p :: putF n i h
noncomputable def setH (h : List (List Nat × Int)) (n : List Nat) (i : Int) : List (List Nat × Int) := if (h.lookup n).isSome then putF n i h else h ++ [(n, i)]
noncomputable abbrev hdK (h : List (List Nat × Int)) : List (PyData × PyData) := (h.map entH).map fun p => (.str p.1, p.2)
theorem put_held (n : List Nat) (i : Int) : ∀ h : List (List Nat × Int), putD (S n) (.int i) (hdK h) = hdK (putF n i h)
  | [] => rfl
  | p :: h => by
    show (if S p.1 = S n then (PyData.str (S p.1), PyData.int i) :: hdK h else (.str (S p.1), .int p.2) :: putD (S n) (.int i) (hdK h)) = hdK (if p.1 = n then (p.1, i) :: h else p :: putF n i h)
    by_cases e : p.1 = n
    · rw [if_pos (by rw [e]), if_pos e]; rfl
    · rw [if_neg fun q => e (S_inj q), if_neg e, put_held n i h]; rfl
theorem set_held (n : List Nat) (i : Int) (h : List (List Nat × Int)) : setD (S n) (.int i) (hdK h) = hdK (setH h n i) := by
  unfold setD setH
  rw [held_in]
  cases (h.lookup n).isSome with
  | true => rw [if_pos rfl, if_pos rfl]; exact put_held n i h
  | false =>
    rw [if_neg (by simp), if_neg (by simp)]
    unfold hdK
    rw [List.map_append, List.map_append]; rfl
noncomputable def heldOf (st : Sta) (n : List Nat) : Int := (st.held.lookup n).getD 0
noncomputable def homeAt (st : Sta) (p : List Nat) : Int := ((st.opn.filter fun q => q.1 = p).map (·.2)).headD 0
noncomputable def goneOf (ps : Plots) (st : Sta) (p : List Nat) : List (List Nat × Int) := st.opn.filter fun q => p ∈ scan ps.reverse (some q.1)
noncomputable def deedT (ps : Plots) (st : Sta) (r : Row) : Sta := match r with
  | .op p => { st with opn := st.opn ++ [(p, st.many)], many := st.many + 1 }
  | .lay n p i => { st with held := setH st.held n st.worth.length, worth := st.worth ++ [(i, homeAt st p)] }
  | .copy n o p => { st with held := setH st.held n st.worth.length, worth := st.worth ++ [(amountOf st (heldOf st o), homeAt st p)] }
  | .same n o => { st with held := setH st.held n (heldOf st o) }
  | .add n o => { st with worth := st.worth.set (heldOf st n).toNat (amountOf st (heldOf st n) + amountOf st (heldOf st o), homeOf st (heldOf st n)) }
  | .tell n => { st with told := st.told ++ [amountOf st (heldOf st n)] }
  | .give p => { st with given := st.given ++ ((goneOf ps st p).map (·.2)).reverse, opn := st.opn.filter fun q => q ∉ goneOf ps st p }
  | _ => st
noncomputable def staK (st : Sta) : List (PyData × PyData) := [(.str (Str.ofString "open"), .list (st.opn.map pairP)), (.str (Str.ofString "held"), heldP st.held), (.str (Str.ofString "worth"), .list (st.worth.map wvP)), (.str (Str.ofString "told"), .list (intsP st.told)), (.str (Str.ofString "given"), .list (intsP st.given)), (.str (Str.ofString "many"), .int st.many)]
noncomputable def putAt (st : Sta) (k : String) (z : PyData) : PyData := .dict (putD (Str.ofString k) z (staK st))
theorem put_open (st : Sta) (o : List (List Nat × Int)) : putAt st "open" (.list (o.map pairP)) = staP { st with opn := o } := by kernel_rfl
theorem put_heldS (st : Sta) (h : List (List Nat × Int)) : putAt st "held" (.dict (hdK h)) = staP { st with held := h } := by kernel_rfl
theorem put_worth (st : Sta) (v : List (Int × Int)) : putAt st "worth" (.list (v.map wvP)) = staP { st with worth := v } := by kernel_rfl
theorem put_told (st : Sta) (l : List Int) : putAt st "told" (.list (intsP l)) = staP { st with told := l } := by kernel_rfl
theorem put_given (st : Sta) (l : List Int) : putAt st "given" (.list (intsP l)) = staP { st with given := l } := by kernel_rfl
noncomputable def IsHeld (st : Sta) (n : List Nat) : Prop := ∃ i, st.held.lookup n = some i ∧ 0 ≤ i ∧ i.toNat < st.worth.length
theorem IsHeld.at {st : Sta} {n : List Nat} (h : IsHeld st n) : aIdx (heldP st.held) (strP n) = some (.int (heldOf st n)) ∧ 0 ≤ heldOf st n ∧ st.worth[(heldOf st n).toNat]? = some (amountOf st (heldOf st n), homeOf st (heldOf st n)) := by
  obtain ⟨i, h1, h2, h3⟩ := h
  have e : heldOf st n = i := by unfold heldOf; rw [h1]; rfl
  rw [e]
  refine ⟨by rw [held_at, h1]; rfl, h2, ?_⟩
  unfold amountOf homeOf
  rw [List.getElem?_eq_getElem h3]; rfl
theorem gone_list {P : List Nat × Int → Prop} [DecidablePred P] : ∀ o : List (List Nat × Int), o.filterMap (fun q => if P q then some (pairP q) else none) = (o.filter fun q => P q).map pairP
  | [] => rfl
  | q :: o => by
    rw [List.filterMap_cons, List.filter_cons, gone_list o]
    by_cases e : P q <;> simp [e]
theorem kept_list {P : List Nat × Int → Prop} [DecidablePred P] : ∀ o : List (List Nat × Int), o.filterMap (fun q => if P q then none else some (pairP q)) = (o.filter fun q => ¬ P q).map pairP
  | [] => rfl
  | q :: o => by
    rw [List.filterMap_cons, List.filter_cons, kept_list o]
    by_cases e : P q <;> simp [e]
theorem flats_pairs (o : List (List Nat × Int)) : flats (o.map pairP) = true := by
  induction o with
  | nil => rfl
  | cons q o ih => rw [List.map_cons, pairP, fl_tup, ih]; rfl
theorem plain_pair (p : List Nat × Int) : plain 2 (pairP p) := plain_tuple fun x hx => by
  simp only [List.mem_cons, List.not_mem_nil, or_false] at hx
  rcases hx with rfl | rfl
  · exact plain_str _
  · exact plain_int _
theorem pair_eqv (p q : List Nat × Int) : PyData.eqv (pairP p) (pairP q) = decide (p = q) := by
  obtain ⟨p1, p2⟩ := p
  obtain ⟨q1, q2⟩ := q
  rw [pairP, pairP, eqv_tup, eqv_cons, eqv_cons, eqv_nil, eqv_str, S_beq, show PyData.eqv (.int p2) (.int q2) = (p2 == q2) from by rw [PyData.eqv], Bool.and_true]
  by_cases h : p1 = q1 <;> by_cases h' : p2 = q2 <;> simp [h, h']
theorem e_notin_pairs (g : List Nat × Int) (fs : List (List Nat × Int)) : aCmp .NotIn (pairP g) (.list (fs.map pairP)) = some (!decide (g ∈ fs)) := by
  have h : (nd (pairP g) && nds (fs.map pairP) && decide (min (PyData.depthAll (fs.map pairP)) (pairP g).depth ≤ 60)) = true := by
    rw [Bool.and_eq_true, Bool.and_eq_true]
    exact ⟨⟨(plain_pair g).1, nds_map plain_pair fs⟩, decide_eq_true (Nat.le_trans (Nat.min_le_right _ _) (Nat.le_trans (plain_pair g).2 (by decide)))⟩
  show (inSeq _ _).map _ = _
  unfold inSeq
  rw [if_pos h]
  show some (!(fs.map pairP).any fun y => PyData.eqv y (pairP g)) = _
  congr 2
  clear h
  induction fs with
  | nil => simp
  | cons f fs ih =>
    rw [List.map_cons, List.any_cons, ih, pair_eqv]
    by_cases e : f = g
    · subst e; simp
    · simp [e, Ne.symm e]
theorem home_list {p : List Nat} : ∀ o : List (List Nat × Int), o.filterMap (fun q => if S q.1 == S p then some (PyData.int q.2) else none) = ((o.filter fun q => q.1 = p).map (·.2)).map .int
  | [] => rfl
  | q :: o => by
    rw [List.filterMap_cons, List.filter_cons, home_list o]
    by_cases e : q.1 = p
    · rw [e]; simp
    · have : (S q.1 == S p) = false := beq_eq_false_iff_ne.mpr fun z => e (S_inj z)
      simp [this, e]
theorem home_first {st : Sta} {p : List Nat} (h : p ∈ upOf st) : ((st.opn.filter fun q => q.1 = p).map (·.2)).map PyData.int = .int (homeAt st p) :: (((st.opn.filter fun q => q.1 = p).map (·.2)).tail).map .int := by
  obtain ⟨q, hq, e⟩ := List.mem_map.mp h
  have hm : q ∈ st.opn.filter fun q => q.1 = p := List.mem_filter.mpr ⟨hq, by simpa using e⟩
  unfold homeAt
  cases hl : (st.opn.filter fun q => q.1 = p) with
  | nil => rw [hl] at hm; cases hm
  | cons z zs => rfl
theorem home_at {st : Sta} {p : List Nat} (h : p ∈ upOf st) {xs : List PyData} : seqAt (PyData.int (homeAt st p) :: xs) 0 = some (.int (homeAt st p)) := rfl
structure Room9 (st : Sta) : Prop where
  opn : st.opn.length ≤ 900
  held : st.held.length ≤ 900
  worth : st.worth.length ≤ 900
  told : st.told.length ≤ 900
  given : st.given.length + st.opn.length ≤ 900
noncomputable def Needs (st : Sta) (r : Row) : Prop := match r with
  | .lay _ p _ => p ∈ upOf st
  | .copy _ o p => IsHeld st o ∧ p ∈ upOf st
  | .same _ o => IsHeld st o
  | .add n o => IsHeld st n ∧ IsHeld st o
  | .tell n => IsHeld st n
  | _ => True
theorem deed9_ok (B : Bui hb) (D : DefAt hb "_law_deed" (fnS pw 16) ["_law_plots_here", "_law_state", "_law_row_here"] (fnB pw 16)) {m_lo : List PyData → Option PyData} (h_law_outward : DefG pw w hb 2 "_law_outward" m_lo) (e_lo : ∀ (ps : Plots) (n : List Nat), ps.length ≤ 900 → m_lo [.list (ps.map plotP), strP n] = some (.list ((scan ps.reverse (some n)).map strP))) :
    ∃ m, DefM pw w hb 3 "_law_deed" ["_law_plots_here", "_law_state", "_law_row_here"] "_law_state" m ∧ ∀ (ps : Plots) (st : Sta) (r : Row), ps.length ≤ 900 → Room9 st → Needs st r → m [.list (ps.map plotP), staP st, rowP r] = some (staP (deedT ps st r)) := by
  refine ⟨_, DefM.of (n := 2) D (by decide) (St.cons (S1.assign (Ev.idx Ev.v Ev.cint) (by decide +kernel))
    (St.cons (S1.if (Tr.cmp Ev.v Ev.s) (St.cons (S1.pAppend (Pa.idx (Pa.name (by decide +kernel)) Ev.s (by intro _ _; exact ⟨_, rfl⟩)) (Ev.tuple (Evs.cons (Ev.idx Ev.v Ev.cint) (Evs.cons (Ev.idx Ev.v Ev.s) Evs.nil))) (by intro _; rfl) (by rfl) (by intro _; rfl) (by intro env h; unfold interactive; rw [h]; rfl))
      (St.cons (S1.pSet (Pa.name (by decide +kernel)) Ev.s (Ev.bin (Ev.idx Ev.v Ev.s) Ev.cint) (by intro _; rfl))
      St.nil)) (St.cons (S1.if (Tr.all (Trs.consOr (Tr.cmp Ev.v Ev.s) (Trs.consOr (Tr.cmp Ev.v Ev.s) Trs.nilOr))) (St.cons (S1.assign (Ev.ite (Tr.cmp Ev.v Ev.s) (Ev.idx Ev.v Ev.cint) (Ev.idx Ev.v Ev.cint)) (by decide +kernel))
        (St.cons (S1.assign (Ev.ite (Tr.cmp Ev.v Ev.s) (Ev.idx Ev.v Ev.cint) (Ev.idx (Ev.idx (Ev.idx Ev.v Ev.s) (Ev.idx (Ev.idx Ev.v Ev.s) (Ev.idx Ev.v Ev.cint))) Ev.cint)) (by decide +kernel))
        (St.cons (S1.assign (Ev.idx (Ev.comp (locs := [".0", "_law_name", "_law_number"]) (by decide +kernel) (It.data (Ev.idx Ev.v Ev.s) (by intro _ _; rfl)) (TgL.tuple (xs := ["_law_name", "_law_number"]) (by decide +kernel) (by decide +kernel) rfl (by intro _; rfl)) (Ifs.one (Tr.cmp Ev.v Ev.v)) Ev.v) Ev.cint) (by decide +kernel))
        (St.cons (S1.pSet (Pa.idx (Pa.name (by decide +kernel)) Ev.s (by intro _ _; exact ⟨_, rfl⟩)) (Ev.idx Ev.v Ev.cint) (Ev.len B (Evs.cons (Ev.idx Ev.v Ev.s) Evs.nil) (by decide +kernel) (by intro _; rfl)) (by intro _; rfl))
        (St.cons (S1.pAppendL (Pa.idx (Pa.name (by decide +kernel)) Ev.s (by intro _ _; exact ⟨_, rfl⟩)) (Evs.cons Ev.v (Evs.cons Ev.v Evs.nil)) (by intro _; rfl) (by rfl) (by intro _; rfl) (by intro env h; unfold interactive; rw [h]; rfl))
        St.nil))))) (St.cons (S1.if (Tr.cmp Ev.v Ev.s) (St.cons (S1.pSet (Pa.idx (Pa.name (by decide +kernel)) Ev.s (by intro _ _; exact ⟨_, rfl⟩)) (Ev.idx Ev.v Ev.cint) (Ev.idx (Ev.idx Ev.v Ev.s) (Ev.idx Ev.v Ev.cint)) (by intro _; rfl))
          St.nil) (St.cons (S1.if (Tr.cmp Ev.v Ev.s) (St.cons (S1.assign (Ev.idx (Ev.idx (Ev.idx Ev.v Ev.s) (Ev.idx (Ev.idx Ev.v Ev.s) (Ev.idx Ev.v Ev.cint))) Ev.cint) (by decide +kernel))
            (St.cons (S1.pAug (Pa.idx (Pa.idx (Pa.name (by decide +kernel)) Ev.s (by intro _ _; exact ⟨_, rfl⟩)) (Ev.idx (Ev.idx Ev.v Ev.s) (Ev.idx Ev.v Ev.cint)) (by intro _ _; exact ⟨_, rfl⟩)) Ev.cint Ev.v (by intros; rfl))
            St.nil)) (St.cons (S1.if (Tr.cmp Ev.v Ev.s) (St.cons (S1.pAppend (Pa.idx (Pa.name (by decide +kernel)) Ev.s (by intro _ _; exact ⟨_, rfl⟩)) (Ev.idx (Ev.idx (Ev.idx Ev.v Ev.s) (Ev.idx (Ev.idx Ev.v Ev.s) (Ev.idx Ev.v Ev.cint))) Ev.cint) (by intro _; rfl) (by rfl) (by intro _; rfl) (by intro env h; unfold interactive; rw [h]; rfl))
              St.nil) (St.cons (S1.if (Tr.cmp Ev.v Ev.s) (St.cons (S1.assignCompC (locs := [".0", "_law_pair"]) (by decide +kernel) (It.data (Ev.idx Ev.v Ev.s) (by intro _ _; rfl)) (TgL.name (by decide +kernel) (by decide +kernel)) (Ifs.one (Tr.cmp (Ev.idx Ev.v Ev.cint) (Ev.def h_law_outward (Evs.cons Ev.v (Evs.cons (Ev.idx Ev.v Ev.cint) Evs.nil)) (by decide +kernel) (by decide) (by intro _; rfl)))) Ev.v (by decide +kernel) (by rfl) (by decide +kernel))
                (St.cons (S1.pExtend (Pa.idx (Pa.name (by decide +kernel)) Ev.s (by intro _ _; exact ⟨_, rfl⟩)) (Ev.slice (Ev.comp (locs := [".0", "_law_plot", "_law_number"]) (by decide +kernel) (It.data Ev.v (by intro _ _; rfl)) (TgL.tuple (xs := ["_law_plot", "_law_number"]) (by decide +kernel) (by decide +kernel) rfl (by intro _; rfl)) Ifs.nil Ev.v) Pt.no Pt.no (Pt.yes (Ev.neg Ev.cint)) (by intro _ _; exact ⟨_, rfl⟩)) (by intro _; rfl) (by rfl) (by intro _; rfl) (by intro env h; unfold interactive; rw [h]; rfl))
                (St.cons (S1.pSetF (Pa.name (by decide +kernel)) Ev.s (EvF.comp (locs := [".0", "_law_pair"]) (by decide +kernel) (It.data (Ev.idx Ev.v Ev.s) (by intro _ _; rfl)) (TgL.name (by decide +kernel) (by decide +kernel)) (Ifs.one (Tr.cmp Ev.v Ev.v)) Ev.v) (by intro _; rfl))
                St.nil))) St.nil)
              St.nil))
            St.nil))
          St.nil))
        St.nil))
      St.nil))
    St.nil)) (fun a xs d' h => procS_all h a), ?_⟩
  intro ps st r hlen hr hn
  refine procS_of fun a => proc_ex (d := staP st) rfl rfl ?_
  refine seqN (run_put (.str (Str.ofString r.parts.1)) (by kernel_rfl)) ?_
  refine seqX (fun ρ => treeOf ρ "_law_state" = some (some a, staP (deedT ps st r))) ?_ (fun ρ h => doneN h)
  have r1 := hr.opn
  have r2 := hr.held
  have r3 := hr.worth
  have r4 := hr.told
  have r5 := hr.given
  cases r with
  | op p =>
    refine if_yes (by kernel_rfl) ?_
    apply seqN
    · exact run_pAppend (ro := some a) (d := staP st) (st.opn.map pairP) (pairP (p, st.many)) (putAt st "open") (by kernel_rfl) (by kernel_rfl) (v := ⟨pairP (p, st.many), .d⟩) (by kernel_rfl) rfl rfl (le_line (by simp; lia)) (d' := staP { st with opn := st.opn ++ [(p, st.many)] }) (by rw [← put_open, List.map_append]; rfl)
    apply seqN
    · exact run_pSet (hpk := by first | rfl | exact plainK_map _ _ _) (ro := some a) (d := staP { st with opn := st.opn ++ [(p, st.many)] }) (staK { st with opn := st.opn ++ [(p, st.many)] }) (Str.ofString "many") (.int (st.many + 1)) id (by kernel_rfl) (v := ⟨.int (st.many + 1), .d⟩) (by kernel_rfl) rfl (by kernel_rfl) (k := ⟨.str (Str.ofString "many"), .d⟩) (by kernel_rfl) rfl rfl (le_line (by show 7 ≤ 1000; decide)) (d' := staP (deedT ps st (.op p))) (by kernel_rfl)
    exact doneN (by kernel_rfl)
  | lay n p i =>
    have hp : p ∈ upOf st := hn
    refine if_no (by kernel_rfl) (seqX (fun ρ => treeOf ρ "_law_state" = some (some a, staP (deedT ps st (.lay n p i)))) (if_yes (by kernel_rfl) ?_) (fun ρ h => doneN h))
    refine seqN (run_put (strP p) (by kernel_rfl)) ?_
    refine seqN (run_put (.int i) (by kernel_rfl)) ?_
    apply seqN
    · refine run_put (.int (homeAt st p)) ?_
      simp only [evl_eq, e_set, cond_true, cond_false, e_rho_nil, e_rho, e_flist, String.reduceBEq, Option.bind_eq_bind, Option.bind_some, e_rt, fix_sta, st_open, compV, itemsOf]
      rw [comp_enc pairP (fun q => if S q.1 == S p then some (PyData.int q.2) else none) (fun q _ => by
        obtain ⟨q1, q2⟩ := q
        refine Eq.trans (b := (some (S q1 == S p)).bind fun c => if c = true then some (some (PyData.int q2)) else some none) (by kernel_rfl) ?_
        show _ = some (if (S q1 == S p) = true then some (PyData.int q2) else none)
        cases (S q1 == S p) <;> rfl), home_list, home_first hp]
      simp only [fix_d, e_idx_l, Option.bind_some, Option.map_some, home_at hp]
    apply seqN
    · exact run_pSet (hpk := by first | rfl | exact plainK_map _ _ _) (ro := some a) (d := staP st) (hdK st.held) (S n) (.int st.worth.length) (putAt st "held") (by kernel_rfl) (v := ⟨.int st.worth.length, .d⟩) (by simp only [evl_eq, e_set, cond_true, cond_false, e_rho_nil, e_rho, e_flist, e_len_l, String.reduceBEq, Option.bind_eq_bind, Option.bind_some, Option.map_some, e_rt, fix_sta, st_worth, List.length_map]) rfl (by kernel_rfl) (k := ⟨strP n, .d⟩) (by kernel_rfl) rfl rfl (le_line (by simp; lia)) (d' := staP { st with held := setH st.held n st.worth.length }) (by rw [set_held]; exact put_heldS ..)
    apply seqN
    · exact run_pAppendL (ro := some a) (d := staP { st with held := setH st.held n st.worth.length }) (st.worth.map wvP) [.int i, .int (homeAt st p)] (putAt { st with held := setH st.held n st.worth.length } "worth") (by kernel_rfl) (by kernel_rfl) (vs := [⟨.int i, .d⟩, ⟨.int (homeAt st p), .d⟩]) (by kernel_rfl) rfl rfl (le_line (by show 2 ≤ 1000; decide)) (le_line (by simp; lia)) (d' := staP (deedT ps st (.lay n p i))) (by
        rw [show st.worth.map wvP ++ [PyData.list [.int i, .int (homeAt st p)]] = (st.worth ++ [(i, homeAt st p)]).map wvP by rw [List.map_append]; rfl]
        exact put_worth ..)
    exact doneN (by kernel_rfl)
  | copy n o p =>
    have hp : p ∈ upOf st := hn.2
    have ho := hn.1.at
    refine if_no (by kernel_rfl) (seqX (fun ρ => treeOf ρ "_law_state" = some (some a, staP (deedT ps st (.copy n o p)))) (if_yes (by kernel_rfl) ?_) (fun ρ h => doneN h))
    refine seqN (run_put (strP p) (by kernel_rfl)) ?_
    apply seqN
    · refine run_put (.int (amountOf st (heldOf st o))) ?_
      simp only [evl_eq, e_set, cond_true, cond_false, e_rho_nil, e_rho, e_fint, e_flist, e_ftup, e_rv, e_eqs, fix_d, fl_nil, fl_str, ofS_beq, String.reduceBEq, e_idx_t, Option.bind_eq_bind, Option.bind_some, if_false, Bool.false_eq_true, rowP, Row.parts, e_rt, fix_sta, st_worth, st_held, fix_held, sq2, ho.1, worth_at ho.2.1 ho.2.2, fix_val, val0]
    apply seqN
    · refine run_put (.int (homeAt st p)) ?_
      simp only [evl_eq, e_set, cond_true, cond_false, e_rho_nil, e_rho, e_flist, String.reduceBEq, Option.bind_eq_bind, Option.bind_some, e_rt, fix_sta, st_open, compV, itemsOf]
      rw [comp_enc pairP (fun q => if S q.1 == S p then some (PyData.int q.2) else none) (fun q _ => by
        obtain ⟨q1, q2⟩ := q
        refine Eq.trans (b := (some (S q1 == S p)).bind fun c => if c = true then some (some (PyData.int q2)) else some none) (by kernel_rfl) ?_
        show _ = some (if (S q1 == S p) = true then some (PyData.int q2) else none)
        cases (S q1 == S p) <;> rfl), home_list, home_first hp]
      simp only [fix_d, e_idx_l, Option.bind_some, Option.map_some, home_at hp]
    apply seqN
    · exact run_pSet (hpk := by first | rfl | exact plainK_map _ _ _) (ro := some a) (d := staP st) (hdK st.held) (S n) (.int st.worth.length) (putAt st "held") (by kernel_rfl) (v := ⟨.int st.worth.length, .d⟩) (by simp only [evl_eq, e_set, cond_true, cond_false, e_rho_nil, e_rho, e_flist, e_len_l, String.reduceBEq, Option.bind_eq_bind, Option.bind_some, Option.map_some, e_rt, fix_sta, st_worth, List.length_map]) rfl (by kernel_rfl) (k := ⟨strP n, .d⟩) (by kernel_rfl) rfl rfl (le_line (by simp; lia)) (d' := staP { st with held := setH st.held n st.worth.length }) (by rw [set_held]; exact put_heldS ..)
    apply seqN
    · exact run_pAppendL (ro := some a) (d := staP { st with held := setH st.held n st.worth.length }) (st.worth.map wvP) [.int (amountOf st (heldOf st o)), .int (homeAt st p)] (putAt { st with held := setH st.held n st.worth.length } "worth") (by kernel_rfl) (by kernel_rfl) (vs := [⟨.int (amountOf st (heldOf st o)), .d⟩, ⟨.int (homeAt st p), .d⟩]) (by kernel_rfl) rfl rfl (le_line (by show 2 ≤ 1000; decide)) (le_line (by simp; lia)) (d' := staP (deedT ps st (.copy n o p))) (by
        rw [show st.worth.map wvP ++ [PyData.list [.int (amountOf st (heldOf st o)), .int (homeAt st p)]] = (st.worth ++ [((amountOf st (heldOf st o)), homeAt st p)]).map wvP by rw [List.map_append]; rfl]
        exact put_worth ..)
    exact doneN (by kernel_rfl)
  | same n o =>
    have ho := IsHeld.at (st := st) (n := o) hn
    refine if_no (by kernel_rfl) (seqX (fun ρ => treeOf ρ "_law_state" = some (some a, staP (deedT ps st (.same n o)))) (if_no (by kernel_rfl) (seqX (fun ρ => treeOf ρ "_law_state" = some (some a, staP (deedT ps st (.same n o)))) (if_yes (by kernel_rfl) ?_) (fun ρ h => doneN h))) (fun ρ h => doneN h))
    apply seqN
    · exact run_pSet (hpk := by first | rfl | exact plainK_map _ _ _) (ro := some a) (d := staP st) (hdK st.held) (S n) (.int (heldOf st o)) (putAt st "held") (by kernel_rfl) (v := ⟨.int (heldOf st o), .d⟩) (by simp only [evl_eq, e_set, cond_true, cond_false, e_rho_nil, e_rho, e_fint, e_flist, e_ftup, e_rv, fix_d, fl_nil, fl_str, String.reduceBEq, e_idx_t, Option.bind_eq_bind, Option.bind_some, rowP, Row.parts, e_rt, fix_sta, st_held, fix_held, sq2, ho.1]) rfl (by kernel_rfl) (k := ⟨strP n, .d⟩) (by kernel_rfl) rfl rfl (le_line (by simp; lia)) (d' := staP (deedT ps st (.same n o))) (by rw [set_held]; exact put_heldS ..)
    exact doneN (by kernel_rfl)
  | add n o =>
    have hnn := hn.1.at
    have ho := hn.2.at
    refine if_no (by kernel_rfl) (seqX (fun ρ => treeOf ρ "_law_state" = some (some a, staP (deedT ps st (.add n o)))) (if_no (by kernel_rfl) (seqX (fun ρ => treeOf ρ "_law_state" = some (some a, staP (deedT ps st (.add n o)))) (if_no (by kernel_rfl) (seqX (fun ρ => treeOf ρ "_law_state" = some (some a, staP (deedT ps st (.add n o)))) (if_yes (by kernel_rfl) ?_) (fun ρ h => doneN h))) (fun ρ h => doneN h))) (fun ρ h => doneN h))
    apply seqN
    · refine run_put (.int (amountOf st (heldOf st o))) ?_
      simp only [evl_eq, e_set, cond_true, cond_false, e_rho_nil, e_rho, e_fint, e_flist, e_ftup, e_rv, fix_d, fl_nil, fl_str, String.reduceBEq, e_idx_t, Option.bind_eq_bind, Option.bind_some, rowP, Row.parts, e_rt, fix_sta, st_worth, st_held, fix_held, sq2, ho.1, worth_at ho.2.1 ho.2.2, fix_val, val0]
    apply seqN
    · have hg : (st.worth.map wvP)[(heldOf st n).toNat]? = some (wvP (amountOf st (heldOf st n), homeOf st (heldOf st n))) := by rw [List.getElem?_map, hnn.2.2]; rfl
      have hmp : place (.list (st.worth.map wvP)) (.int (heldOf st n)) = some (wvP (amountOf st (heldOf st n), homeOf st (heldOf st n)), fun z => .list ((st.worth.map wvP).set (heldOf st n).toNat z)) := by
        show (if 0 ≤ heldOf st n then ((st.worth.map wvP)[(heldOf st n).toNat]?).map _ else none) = _
        rw [if_pos hnn.2.1, hg]; rfl
      have hpw : place (staP st) (.str (Str.ofString "worth")) = some (.list (st.worth.map wvP), putAt st "worth") := by kernel_rfl
      refine run_pAug (ro := some a) (d := staP st) [.int (amountOf st (heldOf st n)), .int (homeOf st (heldOf st n))] 0 (amountOf st (heldOf st n)) (amountOf st (heldOf st o)) (fun z => putAt st "worth" (.list ((st.worth.map wvP).set (heldOf st n).toNat z))) (by kernel_rfl) ?_ (k := ⟨.int 0, .d⟩) (by kernel_rfl) rfl (by decide) rfl (v := ⟨.int (amountOf st (heldOf st o)), .d⟩) (by kernel_rfl) rfl (d' := staP (deedT ps st (.add n o))) ?_
      · simp only [e_set, cond_true, cond_false, e_rho_nil, e_rho, e_fint, e_flist, e_ftup, e_rv, fix_d, fl_nil, fl_str, String.reduceBEq, e_idx_t, Option.bind_eq_bind, Option.bind_some, Option.map_some, rowP, Row.parts, e_rt, fix_sta, st_held, fix_held, sq1, hnn.1, hpw, hmp, id]
        rfl
      · rw [show (st.worth.map wvP).set (heldOf st n).toNat (.list (([.int (amountOf st (heldOf st n)), .int (homeOf st (heldOf st n))] : List PyData).set (0 : Int).toNat (.int (amountOf st (heldOf st n) + amountOf st (heldOf st o))))) = (st.worth.set (heldOf st n).toNat (amountOf st (heldOf st n) + amountOf st (heldOf st o), homeOf st (heldOf st n))).map wvP by rw [List.map_set]; rfl]
        exact put_worth ..
    exact doneN (by kernel_rfl)
  | tell n =>
    have hnn := IsHeld.at (st := st) (n := n) hn
    refine if_no (by kernel_rfl) (seqX (fun ρ => treeOf ρ "_law_state" = some (some a, staP (deedT ps st (.tell n)))) (if_no (by kernel_rfl) (seqX (fun ρ => treeOf ρ "_law_state" = some (some a, staP (deedT ps st (.tell n)))) (if_no (by kernel_rfl) (seqX (fun ρ => treeOf ρ "_law_state" = some (some a, staP (deedT ps st (.tell n)))) (if_no (by kernel_rfl) (seqX (fun ρ => treeOf ρ "_law_state" = some (some a, staP (deedT ps st (.tell n)))) (if_yes (by kernel_rfl) ?_) (fun ρ h => doneN h))) (fun ρ h => doneN h))) (fun ρ h => doneN h))) (fun ρ h => doneN h))
    apply seqN
    · exact run_pAppend (ro := some a) (d := staP st) (intsP st.told) (.int (amountOf st (heldOf st n))) (putAt st "told") (by kernel_rfl) (by kernel_rfl) (v := ⟨.int (amountOf st (heldOf st n)), .d⟩) (by simp only [evl_eq, e_set, cond_true, cond_false, e_rho_nil, e_rho, e_fint, e_flist, e_ftup, e_rv, fix_d, fl_nil, fl_str, String.reduceBEq, e_idx_t, Option.bind_eq_bind, Option.bind_some, rowP, Row.parts, e_rt, fix_sta, st_worth, st_held, fix_held, sq1, hnn.1, worth_at hnn.2.1 hnn.2.2, fix_val, val0]) rfl rfl (le_line (by simp [intsP]; lia)) (d' := staP (deedT ps st (.tell n))) (by
        rw [show intsP st.told ++ [PyData.int (amountOf st (heldOf st n))] = intsP (st.told ++ [amountOf st (heldOf st n)]) by unfold intsP; rw [List.map_append]; rfl]
        exact put_told ..)
    exact doneN (by kernel_rfl)
  | give p =>
    refine if_no (by kernel_rfl) (seqX (fun ρ => treeOf ρ "_law_state" = some (some a, staP (deedT ps st (.give p)))) (if_no (by kernel_rfl) (seqX (fun ρ => treeOf ρ "_law_state" = some (some a, staP (deedT ps st (.give p)))) (if_no (by kernel_rfl) (seqX (fun ρ => treeOf ρ "_law_state" = some (some a, staP (deedT ps st (.give p)))) (if_no (by kernel_rfl) (seqX (fun ρ => treeOf ρ "_law_state" = some (some a, staP (deedT ps st (.give p)))) (if_no (by kernel_rfl) (seqX (fun ρ => treeOf ρ "_law_state" = some (some a, staP (deedT ps st (.give p)))) (if_yes (by kernel_rfl) ?_) (fun ρ h => doneN h))) (fun ρ h => doneN h))) (fun ρ h => doneN h))) (fun ρ h => doneN h))) (fun ρ h => doneN h))
    apply seqN
    · simp only [run_eq, e_set, cond_true, cond_false, e_rho_nil, e_rho, e_flist, String.reduceBEq, Option.bind_eq_bind, Option.bind_some, e_rt, fix_sta, st_open, compV, itemsOf]
      rw [comp_enc pairP (fun q => if p ∈ scan ps.reverse (some q.1) then some (pairP q) else none) (fun q _ => by
        have hq := e_lo ps q.1 hlen
        have hin := e_in_strs p (scan ps.reverse (some q.1))
        simp only [e_set, cond_true, cond_false, e_rho_nil, e_rho, e_flist, e_ftup, e_rv, e_putRd, e_inc, memS_nil, memS_cons, Bool.false_or, fix_d, fl_nil, fl_int, fl_str, String.reduceBEq, e_idx_t, Option.bind_some, Option.map_some, Option.bind_none, if_true, decide_eq_true_eq, List.map_cons, List.map_nil, cstep, rowP, Row.parts, pairP, sq0, sq1, hq, hin]
        by_cases h : p ∈ scan ps.reverse (some q.1) <;> simp [h]), gone_list, show (st.opn.filter fun q => p ∈ scan ps.reverse (some q.1)) = goneOf ps st p from rfl]
      simp only [Option.map_some]
      rfl
    have hgl : (goneOf ps st p).length ≤ st.opn.length := List.length_filter_le _ _
    apply seqN
    · refine run_pExtend (ro := some a) (d := staP st) (intsP st.given) (intsP ((goneOf ps st p).map (·.2)).reverse) (putAt st "given") (by kernel_rfl) (by kernel_rfl) ?_ (flats_ints _) (le_line (by simp [intsP]; lia)) (d' := staP { st with given := st.given ++ ((goneOf ps st p).map (·.2)).reverse }) (by
        rw [show intsP st.given ++ intsP ((goneOf ps st p).map (·.2)).reverse = intsP (st.given ++ ((goneOf ps st p).map (·.2)).reverse) by unfold intsP; rw [List.map_append]]
        exact put_given ..)
      simp only [evl_eq, e_set, cond_true, cond_false, e_rho_nil, e_rho, e_flist, e_rv, String.reduceBEq, Option.bind_eq_bind, Option.bind_some, Int.reduceNeg, compV, itemsOf]
      rw [comp_map pairP (fun q => .int q.2) (fun q _ => by cases q; kernel_rfl), opn_nums]
      simp only [newL_d, Option.bind_some, Option.map_some, Int.reduceNeg, e_rev]
      rw [show (intsP ((goneOf ps st p).map (·.2))).reverse = intsP ((goneOf ps st p).map (·.2)).reverse by unfold intsP; rw [List.map_reverse]]
    apply seqN
    · refine run_pSetF (hpk := by first | rfl | exact plainK_map _ _ _) (ro := some a) (d := staP { st with given := st.given ++ ((goneOf ps st p).map (·.2)).reverse }) (staK { st with given := st.given ++ ((goneOf ps st p).map (·.2)).reverse }) (Str.ofString "open") ((st.opn.filter fun q => q ∉ goneOf ps st p).map pairP) id (by kernel_rfl) ?_ (by kernel_rfl) (k := ⟨.str (Str.ofString "open"), .d⟩) (by kernel_rfl) rfl (flats_pairs _) (le_line (by show 7 ≤ 1000; decide)) (d' := staP (deedT ps st (.give p))) (by kernel_rfl)
      simp only [e_set, cond_true, cond_false, e_rho_nil, e_rho, e_flist, String.reduceBEq, Option.bind_eq_bind, Option.bind_some, e_rt, fix_sta, st_open, compV, itemsOf]
      rw [comp_enc pairP (fun q => if q ∈ goneOf ps st p then none else some (pairP q)) (fun q _ => by
        have hin := e_notin_pairs q (goneOf ps st p)
        simp only [e_set, cond_true, cond_false, e_rho_nil, e_rho, e_flist, e_rv, e_putRd, e_inc, memS_nil, memS_cons, Bool.false_or, String.reduceBEq, Option.bind_some, Option.map_some, Option.bind_none, if_true, cstep, fix_pair, hin]
        by_cases h : q ∈ goneOf ps st p <;> simp [h]), kept_list]
    exact doneN (by kernel_rfl)
  | fork k =>
    exact if_no (by kernel_rfl) (seqX (fun ρ => treeOf ρ "_law_state" = some (some a, staP (deedT ps st (.fork k)))) (if_no (by kernel_rfl) (seqX (fun ρ => treeOf ρ "_law_state" = some (some a, staP (deedT ps st (.fork k)))) (if_no (by kernel_rfl) (seqX (fun ρ => treeOf ρ "_law_state" = some (some a, staP (deedT ps st (.fork k)))) (if_no (by kernel_rfl) (seqX (fun ρ => treeOf ρ "_law_state" = some (some a, staP (deedT ps st (.fork k)))) (if_no (by kernel_rfl) (seqX (fun ρ => treeOf ρ "_law_state" = some (some a, staP (deedT ps st (.fork k)))) (if_no (by kernel_rfl) (doneN (by kernel_rfl))) (fun ρ h => doneN h))) (fun ρ h => doneN h))) (fun ρ h => doneN h))) (fun ρ h => doneN h))) (fun ρ h => doneN h))
  | go k =>
    exact if_no (by kernel_rfl) (seqX (fun ρ => treeOf ρ "_law_state" = some (some a, staP (deedT ps st (.go k)))) (if_no (by kernel_rfl) (seqX (fun ρ => treeOf ρ "_law_state" = some (some a, staP (deedT ps st (.go k)))) (if_no (by kernel_rfl) (seqX (fun ρ => treeOf ρ "_law_state" = some (some a, staP (deedT ps st (.go k)))) (if_no (by kernel_rfl) (seqX (fun ρ => treeOf ρ "_law_state" = some (some a, staP (deedT ps st (.go k)))) (if_no (by kernel_rfl) (seqX (fun ρ => treeOf ρ "_law_state" = some (some a, staP (deedT ps st (.go k)))) (if_no (by kernel_rfl) (doneN (by kernel_rfl))) (fun ρ h => doneN h))) (fun ρ h => doneN h))) (fun ρ h => doneN h))) (fun ρ h => doneN h))) (fun ρ h => doneN h))
  | fin =>
    exact if_no (by kernel_rfl) (seqX (fun ρ => treeOf ρ "_law_state" = some (some a, staP (deedT ps st (.fin)))) (if_no (by kernel_rfl) (seqX (fun ρ => treeOf ρ "_law_state" = some (some a, staP (deedT ps st (.fin)))) (if_no (by kernel_rfl) (seqX (fun ρ => treeOf ρ "_law_state" = some (some a, staP (deedT ps st (.fin)))) (if_no (by kernel_rfl) (seqX (fun ρ => treeOf ρ "_law_state" = some (some a, staP (deedT ps st (.fin)))) (if_no (by kernel_rfl) (seqX (fun ρ => treeOf ρ "_law_state" = some (some a, staP (deedT ps st (.fin)))) (if_no (by kernel_rfl) (doneN (by kernel_rfl))) (fun ρ h => doneN h))) (fun ρ h => doneN h))) (fun ρ h => doneN h))) (fun ρ h => doneN h))) (fun ρ h => doneN h))
end

section
structure Inv9 (ps : Plots) (st : Sta) : Prop where
  up : ∀ p ∈ upOf st, p ∈ ps.map (·.1)
  upn : (upOf st).Nodup
  num : (st.opn.map (·.2)).Nodup
  low : ∀ q ∈ st.opn, q.2 < st.many
  hom : ∀ v ∈ st.worth, v.2 < st.many
  held : ∀ n, HeldOk st n
theorem lookup_putF {n : List Nat} {i : Int} : ∀ {h : List (List Nat × Int)} {m : List Nat}, (putF n i h).lookup m = if m = n then (h.lookup n).map fun _ => i else h.lookup m
  | [], m => by simp [putF]
  | p :: h, m => by
    unfold putF
    by_cases e : p.1 = n
    · rw [if_pos e, List.lookup_cons, List.lookup_cons, List.lookup_cons]
      subst e
      by_cases e2 : m = p.1
      · subst e2; simp
      · simp [e2, beq_eq_false_iff_ne.mpr e2]
    · rw [if_neg e, List.lookup_cons, List.lookup_cons, List.lookup_cons, lookup_putF]
      have e' : (n == p.1) = false := beq_eq_false_iff_ne.mpr (Ne.symm e)
      rw [e']
      by_cases e2 : m = p.1
      · subst e2; simp [e]
      · rw [beq_eq_false_iff_ne.mpr e2]
theorem lookup_setH {n m : List Nat} {i : Int} {h : List (List Nat × Int)} : (setH h n i).lookup m = if m = n then some i else h.lookup m := by
  unfold setH
  cases hl : h.lookup n with
  | some j => rw [if_pos (by simp), lookup_putF, hl]; rfl
  | none =>
    rw [if_neg (by simp), List.lookup_append]
    by_cases e : m = n
    · subst e; simp [hl]
    · rw [if_neg e, List.lookup_cons, beq_eq_false_iff_ne.mpr e]; exact Option.or_none
theorem putF_len {n : List Nat} {i : Int} : ∀ h : List (List Nat × Int), (putF n i h).length = h.length
  | [] => rfl
  | p :: h => by unfold putF; split <;> simp [putF_len h]
theorem setH_len {n : List Nat} {i : Int} (h : List (List Nat × Int)) : (setH h n i).length ≤ h.length + 1 := by
  unfold setH
  by_cases e : (h.lookup n).isSome = true
  · rw [if_pos e, putF_len]; lia
  · rw [if_neg e]; simp
theorem homeAt_mem {st : Sta} {p : List Nat} (h : p ∈ upOf st) : (p, homeAt st p) ∈ st.opn := by
  obtain ⟨q, hq, e⟩ := List.mem_map.mp h
  have hm : q ∈ st.opn.filter fun q => q.1 = p := List.mem_filter.mpr ⟨hq, by simpa using e⟩
  unfold homeAt
  cases hl : (st.opn.filter fun q => q.1 = p) with
  | nil => rw [hl] at hm; cases hm
  | cons z zs =>
    have hz : z ∈ st.opn.filter fun q => q.1 = p := by rw [hl]; exact .head _
    obtain ⟨h1, h2⟩ := List.mem_filter.mp hz
    have h2 : z.1 = p := by simpa using h2
    subst h2
    exact h1
theorem home_mem {st : Sta} {i : Int} (h : i.toNat < st.worth.length) : (amountOf st i, homeOf st i) ∈ st.worth := by
  unfold amountOf homeOf
  rw [List.getElem?_eq_getElem h]
  exact List.getElem_mem h
theorem inv0 (ps : Plots) : Inv9 ps sta0 := ⟨fun p h => (List.not_mem_nil h).elim, List.nodup_nil, List.nodup_nil, fun q h => (List.not_mem_nil h).elim, fun v h => (List.not_mem_nil h).elim, fun n i h => by exact no h⟩
theorem held_more {st st' : Sta} (hi : ∀ n, HeldOk st n) {n : List Nat} {i : Int} (hh : st'.held = setH st.held n i) (hw : st.worth.length ≤ st'.worth.length) (h0 : 0 ≤ i ∧ i.toNat < st'.worth.length) : ∀ m, HeldOk st' m := by
  intro m j hj
  rw [hh, lookup_setH] at hj
  split at hj
  · (have e := si hj; subst e; clear hj); exact h0
  · have := hi m j hj
    exact ⟨this.1, by lia⟩
theorem inv_deed {ps : Plots} {st : Sta} {r : Row} (hi : Inv9 ps st) (hn : Needs st r) (hop : ∀ p, r = .op p → p ∈ ps.map (·.1) ∧ p ∉ upOf st) : Inv9 ps (deedT ps st r) := by
  cases r with
  | op p =>
    obtain ⟨h1, h2⟩ := hop p rfl
    have hu : upOf (deedT ps st (.op p)) = upOf st ++ [p] := by simp [upOf, deedT]
    refine ⟨?_, ?_, ?_, ?_, ?_, hi.held⟩
    · rw [hu]; intro q hq
      rcases List.mem_append.mp hq with hq | hq
      · exact hi.up q hq
      · rw [List.mem_singleton.mp hq]; exact h1
    · rw [hu, List.nodup_append]
      exact ⟨hi.upn, by simp, fun a ha b hb e => h2 (by rw [List.mem_singleton.mp hb] at e; exact e ▸ ha)⟩
    · show ((st.opn ++ [(p, st.many)]).map (·.2)).Nodup
      rw [List.map_append, List.nodup_append]
      refine ⟨hi.num, by simp, fun a ha b hb e => ?_⟩
      obtain ⟨q, hq, rfl⟩ := List.mem_map.mp ha
      have := hi.low q hq
      have hb : b = st.many := by simpa using hb
      have e : q.2 = b := e
      lia
    · show ∀ q ∈ st.opn ++ [(p, st.many)], q.2 < st.many + 1
      intro q hq
      rcases List.mem_append.mp hq with hq | hq
      · have := hi.low q hq; lia
      · rw [List.mem_singleton.mp hq]; show st.many < st.many + 1; lia
    · show ∀ v ∈ st.worth, v.2 < st.many + 1
      intro v hv
      have := hi.hom v hv; lia
  | lay n p i =>
    have hp := homeAt_mem (show p ∈ upOf st from hn)
    refine ⟨hi.up, hi.upn, hi.num, hi.low, ?_, held_more hi.held rfl (by simp [deedT]) (by simp [deedT])⟩
    show ∀ v ∈ st.worth ++ [(i, homeAt st p)], v.2 < st.many
    intro v hv
    rcases List.mem_append.mp hv with hv | hv
    · exact hi.hom v hv
    · rw [List.mem_singleton.mp hv]; exact hi.low _ hp
  | copy n o p =>
    have hp := homeAt_mem (show p ∈ upOf st from hn.2)
    refine ⟨hi.up, hi.upn, hi.num, hi.low, ?_, held_more hi.held rfl (by simp [deedT]) (by simp [deedT])⟩
    show ∀ v ∈ st.worth ++ [(amountOf st (heldOf st o), homeAt st p)], v.2 < st.many
    intro v hv
    rcases List.mem_append.mp hv with hv | hv
    · exact hi.hom v hv
    · rw [List.mem_singleton.mp hv]; exact hi.low _ hp
  | same n o =>
    refine ⟨hi.up, hi.upn, hi.num, hi.low, hi.hom, held_more hi.held rfl (Nat.le_refl _) ?_⟩
    obtain ⟨i, h1, h2, h3⟩ := (show IsHeld st o from hn)
    have : heldOf st o = i := by unfold heldOf; rw [h1]; rfl
    rw [this]; exact ⟨h2, h3⟩
  | add n o =>
    have hlen : (deedT ps st (.add n o)).worth.length = st.worth.length := by simp [deedT]
    refine ⟨hi.up, hi.upn, hi.num, hi.low, ?_, fun m j hj => ?_⟩
    · obtain ⟨i, h1, h2, h3⟩ := hn.1
      have e : heldOf st n = i := by unfold heldOf; rw [h1]; rfl
      have hm := hi.hom _ (home_mem h3)
      show ∀ v ∈ st.worth.set (heldOf st n).toNat (amountOf st (heldOf st n) + amountOf st (heldOf st o), homeOf st (heldOf st n)), v.2 < st.many
      intro v hv
      rcases List.mem_or_eq_of_mem_set hv with hv | rfl
      · exact hi.hom v hv
      · rw [e]; exact hm
    · rw [hlen]; exact hi.held m j hj
  | tell n => exact ⟨hi.up, hi.upn, hi.num, hi.low, hi.hom, hi.held⟩
  | give p =>
    have hs : (deedT ps st (.give p)).opn.Sublist st.opn := List.filter_sublist
    exact ⟨fun q hq => hi.up q ((hs.map _).subset hq), List.Nodup.sublist (hs.map _) hi.upn, List.Nodup.sublist (hs.map _) hi.num, fun q hq => hi.low q (hs.subset hq), hi.hom, hi.held⟩
  | fork k => exact hi
  | go k => exact hi
  | fin => exact hi
structure Size9 (k : Nat) (st : Sta) : Prop where
  opn : st.opn.length ≤ k
  held : st.held.length ≤ k
  worth : st.worth.length ≤ k
  told : st.told.length ≤ k
  given : st.given.length ≤ 20 * k
theorem held_is {ps : Plots} {st : Sta} {n : List Nat} (hi : Inv9 ps st) (h : (st.held.lookup n).isSome = true) : IsHeld st n := by
  obtain ⟨i, hl⟩ := Option.isSome_iff_exists.mp h
  exact ⟨i, hl, (hi.held n i hl).1, (hi.held n i hl).2⟩
theorem lack_is {ps : Plots} {st : Sta} {n : List Nat} (hi : Inv9 ps st) (h : lackT st n = "") : IsHeld st n := by
  refine held_is hi ?_
  unfold lackT at h
  cases hl : st.held.lookup n with
  | none =>
    rw [hl] at h
    exact absurd (show "nothing" = "" from h) (by decide)
  | some i => rfl
theorem needs_of {ps : Plots} {st : Sta} {r : Row} {c : List (List Nat)} (hi : Inv9 ps st) (h : wrongT c st r = "") : Needs st r ∧ ∀ p, r = .op p → p ∉ upOf st := by
  cases r with
  | op p =>
    refine ⟨trivial, fun q e => ?_⟩
    cases e
    intro hp
    rw [show wrongT c st (.op p) = "open already" from if_pos hp] at h
    exact absurd h (by decide)
  | lay n p i =>
    refine ⟨?_, fun q e => nomatch e⟩
    by_cases hp : p ∈ upOf st
    · exact hp
    · rw [show wrongT c st (.lay n p i) = "not open" from if_neg hp] at h; exact absurd h (by decide)
  | copy n o p =>
    refine ⟨?_, fun q e => nomatch e⟩
    by_cases hl : lackT st o = ""
    · rw [show wrongT c st (.copy n o p) = if p ∈ upOf st then "" else "not open" from if_pos hl] at h
      by_cases hp : p ∈ upOf st
      · exact ⟨lack_is hi hl, hp⟩
      · rw [if_neg hp] at h; exact absurd h (by decide)
    · rw [show wrongT c st (.copy n o p) = lackT st o from if_neg hl] at h; exact absurd h hl
  | same n o =>
    refine ⟨?_, fun q e => nomatch e⟩
    by_cases hl : (st.held.lookup o).isSome = true
    · exact held_is hi hl
    · rw [show wrongT c st (.same n o) = "nothing" from if_neg hl] at h; exact absurd h (by decide)
  | add n o =>
    refine ⟨?_, fun q e => nomatch e⟩
    by_cases hl : lackT st n = ""
    · rw [show wrongT c st (.add n o) = lackT st o from if_pos hl] at h
      exact ⟨lack_is hi hl, lack_is hi h⟩
    · rw [show wrongT c st (.add n o) = lackT st n from if_neg hl] at h; exact absurd h hl
  | tell n => exact ⟨lack_is hi h, fun q e => nomatch e⟩
  | give p => exact ⟨trivial, fun q e => nomatch e⟩
  | fork k => exact ⟨trivial, fun q e => nomatch e⟩
  | go k => exact ⟨trivial, fun q e => nomatch e⟩
  | fin => exact ⟨trivial, fun q e => nomatch e⟩
end

section
variable {w : World} {hb : Heap}
noncomputable def entS (p : List Nat × Int) : Str × PyData := (S p.1, .int p.2)
noncomputable def stdP (h : List (List Nat × Int)) : PyData := dictOf (h.map entS)
theorem std_in (n : List Nat) : ∀ h : List (List Nat × Int), hasKey (S n) ((h.map entS).map fun p => (.str p.1, p.2)) = decide (n ∈ h.map (·.1))
  | [] => rfl
  | p :: h => by
    show (decide (S p.1 = S n) || hasKey (S n) ((h.map entS).map fun p => (.str p.1, p.2))) = _
    rw [std_in n h]
    by_cases e : n = p.1
    · subst e; simp
    · rw [decide_eq_false fun q => e (S_inj q).symm]; simp [e]
theorem e_in_std (n : List Nat) (h : List (List Nat × Int)) : aCmp .In (strP n) (stdP h) = some (decide (n ∈ h.map (·.1))) := by
  show inD (S n) ((h.map entS).map fun p => (.str p.1, p.2)) = _
  rw [inD_map (fun p : Str × PyData => p.1) (fun p => p.2), std_in]
theorem e_notin_std (n : List Nat) (h : List (List Nat × Int)) : aCmp .NotIn (strP n) (stdP h) = some (!decide (n ∈ h.map (·.1))) := by
  show (aCmp .In (strP n) (stdP h)).map _ = _
  rw [e_in_std]; rfl
theorem len_std (h : List (List Nat × Int)) : aLen (stdP h) = some (.int h.length) := by
  show (if plainK ((h.map entS).map fun p => (.str p.1, p.2)) = true then _ else _) = _
  rw [if_pos (plainK_map _ _ _)]; simp
theorem fix_std (h : List (List Nat × Int)) (f : Fl) : V.fix (stdP h) f = ⟨stdP h, f⟩ := rfl
theorem fix_store (C Va p : Addr) (f : StF) (fl : Fl) : V.fix (storeD C Va p f) fl = ⟨storeD C Va p f, fl⟩ := rfl
theorem e_rtT {r : Option Addr} {x : PyData} : rdVar (.own (.tree r x)) = some ⟨x, .t⟩ := rfl
theorem std_set {up : List (List Nat × Int)} {pl : List Nat} (h : pl ∉ up.map (·.1)) (o : Int) : PyData.dict (setD (S pl) (.int o) ((up.map entS).map fun p => (.str p.1, p.2))) = stdP (up ++ [(pl, o)]) := by
  unfold setD
  rw [if_neg (by rw [std_in, decide_eq_false h]; simp)]
  unfold stdP dictOf
  simp [entS]
noncomputable def heldS (h : List (List Nat × Int)) : List (Str × Nat) := h.map fun q => (S q.1, q.2.toNat)
noncomputable def stF5 (st : Sta) : StF := ⟨.list (intsP st.told), st.many, .list (intsP st.given), stdP st.opn, heldS st.held, st.worth⟩
theorem fix_valD (Va : Addr) (x y : Int) (fl : Fl) : V.fix (valD Va x y) fl = ⟨valD Va x y, fl⟩ := rfl
noncomputable def heldV (V : Addr) (st : Sta) : PyData := dictOf (st.held.map fun q => (S q.1, valOf V st.worth q.2.toNat))
theorem attr_held5 (C V p : Addr) (st : Sta) : attrS C V "held" (storeD C V p (stF5 st)) = some (heldV V st) := by
  rw [attrS_held, heldR_eq]
  unfold heldD heldV stF5 heldS
  rw [List.map_map]; rfl
theorem fix_heldV (Va : Addr) (st : Sta) (fl : Fl) : V.fix (heldV Va st) fl = ⟨heldV Va st, fl⟩ := rfl
theorem in_heldG (n : List Nat) (g : Int → PyData) : ∀ h : List (List Nat × Int), hasKey (S n) ((h.map fun q => (S q.1, g q.2)).map fun p => (.str p.1, p.2)) = (h.lookup n).isSome
  | [] => rfl
  | p :: h => by
    show (decide (S p.1 = S n) || hasKey (S n) ((h.map fun q => (S q.1, g q.2)).map fun p => (.str p.1, p.2))) = _
    rw [in_heldG n g h, List.lookup_cons]
    by_cases e : n = p.1
    · subst e; rw [decide_eq_true rfl, beq_self_eq_true]; rfl
    · rw [decide_eq_false fun q => e (S_inj q).symm, beq_eq_false_iff_ne.mpr e]; rfl
theorem at_heldG (n : List Nat) (g : Int → PyData) : ∀ h : List (List Nat × Int), atKey (S n) ((h.map fun q => (S q.1, g q.2)).map fun p => (.str p.1, p.2)) = (h.lookup n).map g
  | [] => rfl
  | p :: h => by
    show (if S p.1 = S n then some (g p.2) else atKey (S n) ((h.map fun q => (S q.1, g q.2)).map fun p => (.str p.1, p.2))) = _
    rw [List.lookup_cons]
    by_cases e : n = p.1
    · subst e; rw [if_pos rfl, beq_self_eq_true]; rfl
    · rw [if_neg fun q => e (S_inj q).symm, beq_eq_false_iff_ne.mpr e]; exact at_heldG n g h
theorem notin_heldV (V : Addr) (st : Sta) (n : List Nat) : aCmp .NotIn (strP n) (heldV V st) = some (!(st.held.lookup n).isSome) := by
  show (inD (S n) ((st.held.map fun q => (S q.1, valOf V st.worth q.2.toNat)).map fun p => (.str p.1, p.2))).map (fun b => !b) = _
  rw [inD_map (fun p : Str × PyData => p.1) (fun p => p.2), in_heldG n fun i => valOf V st.worth i.toNat]; rfl
theorem at_heldV (V : Addr) {st : Sta} {n : List Nat} (h : IsHeld st n) : aIdx (heldV V st) (strP n) = some (valD V (amountOf st (heldOf st n)) (homeOf st (heldOf st n))) := by
  show atKey (S n) ((st.held.map fun q => (S q.1, valOf V st.worth q.2.toNat)).map fun p => (.str p.1, p.2)) = _
  obtain ⟨i, h1, h2, h3⟩ := h
  rw [at_heldG n fun i => valOf V st.worth i.toNat, h1]
  have e : heldOf st n = i := by unfold heldOf; rw [h1]; rfl
  rw [e]
  show some (valOf V st.worth i.toNat) = _
  unfold valOf amountOf homeOf
  rw [List.getElem?_eq_getElem h3]; rfl
theorem pop_std (n : List Nat) (h : List (List Nat × Int)) : PyData.dict (popD (S n) ((h.map entS).map fun p => (.str p.1, p.2))) = stdP (h.filter fun p => decide (p.1 ≠ n)) := by
  rw [popD_map]
  unfold stdP dictOf
  congr 2
  induction h with
  | nil => rfl
  | cons q h ih =>
    by_cases e : q.1 = n
    · rw [List.map_cons, List.filter_cons_of_neg (by simp [entS, e]), List.filter_cons_of_neg (by simp [e]), ih]
    · rw [List.map_cons, List.filter_cons_of_pos (p := fun p : Str × PyData => decide (p.1 ≠ S n)) (a := entS q) (decide_eq_true (fun q' => e (S_inj q'))), List.filter_cons_of_pos (by simp [e]), ih]; rfl
theorem at_std {n : List Nat} {k : Int} : ∀ {h : List (List Nat × Int)}, (h.map (·.1)).Nodup → (n, k) ∈ h → atKey (S n) ((h.map entS).map fun p => (.str p.1, p.2)) = some (.int k)
  | [], _, q => nomatch q
  | p :: h, hn, q => by
    show (if S p.1 = S n then some (.int p.2) else atKey (S n) ((h.map entS).map fun p => (.str p.1, p.2))) = _
    rw [List.map_cons, List.nodup_cons] at hn
    rcases List.mem_cons.mp q with rfl | q
    · rw [if_pos rfl]
    · rw [if_neg]
      · exact at_std hn.2 q
      · intro e
        exact hn.1 (by rw [S_inj e]; exact List.mem_map.mpr ⟨_, q, rfl⟩)
theorem run_pPop {x : String} {mp : Rho → PyData → Option (PyData × (PyData → PyData))} {m : Rho → Option V} {ρ : Rho} {ro : Option Addr} {d d' : PyData} {v : V} (kvs : List (PyData × PyData)) (key : Str) (z : Int) (up : PyData → PyData) (h1 : treeOf ρ x = some (ro, d)) (h2 : mp ρ d = some (.dict kvs, up)) (hpk : plainK kvs = true) (h3 : evl m ρ = some v) (hv : v.x = .str key) (h4 : atKey key kvs = some (.int z)) (h6 : up (.dict (popD key kvs)) = d') :
    run (mPop x mp m) ρ = some (.next (ρ.set x (.own (.tree ro d')))) := by
  dsimp only [run, mPop]
  rw [h1, Option.bind_some, h2, Option.bind_some, show dictOfD (.dict kvs) = some kvs from if_pos hpk, Option.bind_some, show m ρ = _ from h3, Option.bind_some, hv]
  show Option.bind (some key) _ = _
  rw [Option.bind_some, h4, Option.bind_some, if_pos (show isIntD (.int z) = true from rfl)]
  dsimp only
  rw [h6]
noncomputable abbrev stdK (h : List (List Nat × Int)) : List (PyData × PyData) := (h.map entS).map fun p => (.str p.1, p.2)
theorem keys_std (h : List (List Nat × Int)) : (((h.map entS).map fun p => ((.str p.1, p.2) : PyData × PyData)).map (·.1)) = h.map fun p => strP p.1 := by
  rw [List.map_map, List.map_map]; rfl
theorem dict_std (h : List (List Nat × Int)) : dictOfD (stdP h) = some ((h.map entS).map fun p => (.str p.1, p.2)) := if_pos (plainK_map _ _ _)
theorem attr_std {C V p : Addr} {f : StF} (h : PyData) : attrS C V "standing" (storeD C V p { f with standing := h }) = some h := attrS_standing _ _ _ _
theorem give4_ok (B : Bui hb) (HS : GName hb "sorted" (.builtin "sorted")) {C V p : Addr} {ps : List PyData} {mC mV : Str → Option Value} (KC : Cls storeNames hb C mC) (KV : Cls valNames hb V mV) (HP : ListAt pw w hb p ps) (D : MethAt hb C "give" (mthS pw 4 4) ["self", "plot"] (mthB pw 4 4)) {m_o : List PyData → Option PyData} (h_outward : DefG pw w hb 2 "outward" m_o) :
    ∃ m, MethR pw w hb 4 C "give" "self" "plot" m ∧ ∀ (up : List (List Nat × Int)) (pl : List Nat) (f : StF) (gs : List Int) (sc : List Nat → List (List Nat)), f.standing = stdP up → f.given = .list (gs.map .int) → (up.map (·.1)).Nodup → up.length < 64 → gs.length ≤ 800 →
      (∀ q ∈ up.map (·.1), m_o [.list ps, strP q] = some (.list ((sc q).map strP))) →
      m [storeD C V p f, strP pl] = some (.none, storeD C V p { f with standing := stdP (up.filter fun q => !decide (pl ∈ sc q.1)), given := .list ((gs ++ (sortI ((up.filter fun q => decide (pl ∈ sc q.1)).map (·.2))).reverse).map .int) }) := by
  refine ⟨_, MethR.of D (n := 3) (St.cons (S1.ownList Evs.nil (by decide +kernel))
    (St.cons (S1.for (It.data (Ev.listD B (Evs.cons (Ev.attr KC KV Ev.v (by intro _; with_unfolding_all rfl)) Evs.nil) (by decide +kernel) (by intro _; rfl)) (by intro _ _; rfl)) (Tg.name (by decide +kernel)) (St.cons (S1.if (Tr.cmp Ev.v (Ev.def h_outward (Evs.cons (Ev.plots (C := C) (Va := V) KC HP Ev.v (by intro _; with_unfolding_all rfl)) (Evs.cons Ev.v Evs.nil)) (by decide +kernel) (by decide) (by intro _; rfl))) (St.cons (S1.append (Ev.idx (Ev.attr KC KV Ev.v (by intro _; with_unfolding_all rfl)) Ev.v) (by decide +kernel) (by intro _; rfl) (by rfl) (by intro env h; unfold interactive; rw [h]; rfl))
        (St.cons (S1.pPop (Pa.attr (Va := V) KC (Pa.name (by decide +kernel)) (by intro _; with_unfolding_all rfl)) Ev.v (by intro _; rfl) (by rfl) (by intro _; rfl) (by intro env h; unfold interactive; rw [h]; rfl))
        St.nil)) St.nil)
      St.nil))
    (St.cons (S1.pExtend (Pa.attr (Va := V) KC (Pa.name (by decide +kernel)) (by intro _; with_unfolding_all rfl)) (Ev.sortedRev HS Ev.v (by decide +kernel) (by intro _; rfl)) (by intro _; rfl) (by rfl) (by intro _; rfl) (by intro env h; unfold interactive; rw [h]; rfl))
    St.nil))) _ (fun a xs r h => procRS_all h a) (by decide) (by decide), ?_⟩
  intro up pl f gs sc hst hgv hnd hul hgl ho
  refine procRS_of fun a => procR_end rfl rfl ?_
  have hat : attrS C V "standing" (storeD C V p f) = some (stdP up) := by rw [attrS_standing, hst]
  refine seqN (by simp only [run_eq, le_line, fls_nil, Option.bind_some, if_true, List.map_nil, List.length_nil, and_self, Nat.reduceLeDiff]; rfl) ?_
  refine seqX (fun ρ => ρ "self" = some (.own (.tree (some a) (storeD C V p { f with standing := stdP (up.filter fun q => !decide (pl ∈ sc q.1)) }))) ∧ ρ "numbers" = some (.own (.lst (((up.filter fun q => decide (pl ∈ sc q.1)).map (·.2)).map .int)))) ?_ ?_
  · refine for_run (up.map fun p => strP p.1) .d (by simp only [itr_eq, e_set, cond_true, cond_false, e_rho_nil, e_rho, e_fstr, String.reduceBEq, Option.bind_eq_bind, Option.bind_some, Option.map_some, e_rtT, fix_store, hat, fix_std, dict_std, keys_std, itemsOf]) (by decide) ?_
    refine (forD_inv' (fun i ρ => ρ "self" = some (.own (.tree (some a) (storeD C V p { f with standing := stdP (((up.take i).filter fun q => !decide (pl ∈ sc q.1)) ++ up.drop i) }))) ∧ ρ "numbers" = some (.own (.lst ((((up.take i).filter fun q => decide (pl ∈ sc q.1)).map (·.2)).map .int))) ∧ ρ "plot" = some (.val ⟨strP pl, .d⟩)) ?_ ?_).imp fun ρ' h => ⟨h.1, ?_⟩
    · refine ⟨?_, by simp only [e_set, cond_true, cond_false, e_rho_nil, e_rho, e_fstr, String.reduceBEq]; rfl, by simp only [e_set, cond_true, cond_false, e_rho_nil, e_rho, e_fstr, String.reduceBEq]⟩
      simp only [e_set, cond_true, cond_false, e_rho_nil, e_rho, e_fstr, String.reduceBEq]
      rw [List.take_zero, List.filter_nil, List.nil_append, List.drop_zero, ← hst]
    · rintro i x ρ hx ⟨h1, h2, h3⟩
      rw [List.getElem?_map] at hx
      obtain ⟨q, hq, rfl⟩ := Option.map_eq_some_iff.mp hx
      have hi := (List.getElem?_eq_some_iff.mp hq).1
      have hqm : q ∈ up := List.mem_of_getElem? hq
      have hdr : up.drop i = q :: up.drop (i + 1) := by
        rw [List.drop_eq_getElem_cons hi]; congr 1
        exact (List.getElem?_eq_some_iff.mp hq).2
      have htk : up.take (i + 1) = up.take i ++ [q] := by rw [List.take_add_one, hq]; rfl
      refine ⟨_, by simp only [e_putRd, fix_d]; rfl, ?_⟩
      have hout := ho q.1 (List.mem_map.mpr ⟨q, hqm, rfl⟩)
      have hin := e_in_strs pl (sc q.1)
      have hpl := plotsAt_store C V p ps { f with standing := stdP (((up.take i).filter fun q => !decide (pl ∈ sc q.1)) ++ up.drop i) }
      have hsub : (((up.take i).filter fun q => !decide (pl ∈ sc q.1)) ++ up.drop i).Sublist up := by
        conv => rhs; rw [← List.take_append_drop i up]
        exact (List.filter_sublist).append (List.Sublist.refl _)
      have hnd' : ((((up.take i).filter fun q => !decide (pl ∈ sc q.1)) ++ up.drop i).map (·.1)).Nodup := hnd.sublist (hsub.map _)
      by_cases hg : pl ∈ sc q.1
      · rw [decide_eq_true hg] at hin
        have hix : aIdx (stdP (((up.take i).filter fun q => !decide (pl ∈ sc q.1)) ++ up.drop i)) (strP q.1) = some (.int q.2) := at_std hnd' (List.mem_append_right _ (by rw [hdr]; exact .head _))
        have hl : (((((up.take i).filter fun q => decide (pl ∈ sc q.1)).map (·.2)).map PyData.int)).length + 1 ≤ sizeLine := le_line (by
          have := List.length_filter_le (fun q : List Nat × Int => decide (pl ∈ sc q.1)) (up.take i)
          simp only [List.length_map]
          rw [List.length_take] at this; lia)
        have hpa : placeA C V "standing" (storeD C V p { f with standing := stdP (((up.take i).filter fun q => !decide (pl ∈ sc q.1)) ++ up.drop i) }) = some (stdP (((up.take i).filter fun q => !decide (pl ∈ sc q.1)) ++ up.drop i), fun z => storeD C V p { f with standing := z }) := placeA_store C V p _ (i := 2) (y := "standing") rfl
        have hE : ((((up.take i).filter fun q => !decide (pl ∈ sc q.1)) ++ up.drop i).filter fun p => decide (p.1 ≠ q.1)) = ((up.take (i + 1)).filter fun q => !decide (pl ∈ sc q.1)) ++ up.drop (i + 1) := by
          have hn := hnd
          rw [← List.take_append_drop i up, List.map_append, List.nodup_append] at hn
          rw [List.filter_append]
          congr 1
          · rw [htk, List.filter_append, List.filter_cons_of_neg (p := fun q : List Nat × Int => !decide (pl ∈ sc q.1)) (by simp [hg]), List.filter_nil, List.append_nil, List.filter_eq_self.mpr]
            intro y hy
            rw [decide_eq_true_eq]
            exact hn.2.2 y.1 (List.mem_map.mpr ⟨y, (List.mem_filter.mp hy).1, rfl⟩) q.1 (List.mem_map.mpr ⟨q, by rw [hdr]; exact .head _, rfl⟩)
          · rw [hdr, List.filter_cons_of_neg (by simp), List.filter_eq_self.mpr]
            intro y hy
            rw [decide_eq_true_eq]
            intro e
            rw [hdr, List.map_cons, List.nodup_cons] at hn
            exact hn.2.1.1 (by rw [← e]; exact List.mem_map.mpr ⟨y, hy, rfl⟩)
        refine seqN (ifR_yes (by simp only [tst_eq, e_set, cond_true, cond_false, e_rv, String.reduceBEq, Option.bind_eq_bind, Option.bind_some, Option.map_some, List.map_cons, List.map_nil, e_rtT, h1, h3, hpl, hout, hin]) (seq (by simp only [run_eq, e_set, cond_true, cond_false, e_fint, e_rv, String.reduceBEq, Option.bind_eq_bind, Option.bind_some, Option.map_some, if_true, and_true, e_rtT, h1, h2, attr_std, fix_std, hix, hl]; rfl) (seq (run_pPop (ro := some a) (stdK (((up.take i).filter fun q => !decide (pl ∈ sc q.1)) ++ up.drop i)) (S q.1) q.2 (fun z => storeD C V p { f with standing := z }) (d := storeD C V p { f with standing := stdP (((up.take i).filter fun q => !decide (pl ∈ sc q.1)) ++ up.drop i) }) ?_ ?_ (plainK_map _ _ _) (v := ⟨strP q.1, .d⟩) (by simp only [evl_eq, e_set, cond_true, cond_false, e_rv, String.reduceBEq, Option.bind_some]) rfl hix rfl) rfl))) (doneN ⟨?_, ?_, by simp only [e_set, cond_false, String.reduceBEq, h3]⟩)
        · show treeOf _ _ = _
          unfold treeOf
          simp only [e_set, cond_false, String.reduceBEq, h1]
        · show (placeA C V "standing" _).map _ = _
          rw [hpa]; rfl
        · simp only [e_set, cond_true, cond_false, String.reduceBEq]
          rw [show PyData.dict (popD (S q.1) (stdK (((up.take i).filter fun q => !decide (pl ∈ sc q.1)) ++ up.drop i))) = _ from pop_std _ _, hE]
        · simp only [e_set, cond_true, cond_false, String.reduceBEq]
          rw [htk, List.filter_append, List.filter_cons_of_pos (p := fun q : List Nat × Int => decide (pl ∈ sc q.1)) (by simp [hg])]
          simp
      · rw [decide_eq_false hg] at hin
        refine seqN (ifR_no (by simp only [tst_eq, e_set, cond_true, cond_false, e_rv, String.reduceBEq, Option.bind_eq_bind, Option.bind_some, Option.map_some, List.map_cons, List.map_nil, e_rtT, h1, h3, hpl, hout, hin]) rfl) (doneN ⟨?_, ?_, by simp only [e_set, cond_false, String.reduceBEq, h3]⟩)
        · simp only [e_set, cond_false, String.reduceBEq, h1]
          rw [htk, List.filter_append, List.filter_cons_of_pos (p := fun q : List Nat × Int => !decide (pl ∈ sc q.1)) (by simp [hg]), List.filter_nil, hdr, List.append_assoc]; rfl
        · simp only [e_set, cond_false, String.reduceBEq, h2]
          rw [htk, List.filter_append, List.filter_cons_of_neg (p := fun q : List Nat × Int => decide (pl ∈ sc q.1)) (by simp [hg]), List.filter_nil, List.append_nil]
    · obtain ⟨_, h1, h2, _⟩ := h
      rw [List.length_map, List.take_length, List.drop_length, List.append_nil] at h1
      rw [List.length_map, List.take_length] at h2
      exact ⟨h1, h2⟩
  · rintro ρ ⟨h1, h2⟩
    have hpa : placeA C V "given" (storeD C V p { f with standing := stdP (up.filter fun q => !decide (pl ∈ sc q.1)) }) = some (f.given, fun z => storeD C V p ({ f with standing := stdP (up.filter fun q => !decide (pl ∈ sc q.1)), given := z })) := placeA_store C V p _ (i := 1) (y := "given") rfl
    generalize hN : (up.filter fun q => decide (pl ∈ sc q.1)).map (·.2) = N at h2
    have hNl : N.length < 64 := by
      rw [← hN, List.length_map]
      exact Nat.lt_of_le_of_lt (List.length_filter_le _ _) hul
    have hs : sortR ⟨.list (N.map .int), .t⟩ = some ⟨.list ((sortI N).reverse.map .int), .d⟩ := by
      show (intsL (N.map .int)).bind _ = _
      rw [intsL_map, Option.bind_some, if_pos hNl]
    have hsl : (sortI N).length = N.length := (sortI_perm N).length_eq
    refine seqN (run_pExtend (gs.map .int) ((sortI N).reverse.map .int) (fun z => storeD C V p ({ f with standing := stdP (up.filter fun q => !decide (pl ∈ sc q.1)), given := z })) (ro := some a) (d := storeD C V p { f with standing := stdP (up.filter fun q => !decide (pl ∈ sc q.1)) }) (by unfold treeOf; rw [h1]) ?_ (by simp only [evl_eq, e_rl, Option.bind_some, h2, hs]) ?_ (le_line (by simp; lia)) rfl) (doneN ?_)
    · show (placeA C V "given" _).map _ = _
      rw [hpa, hgv]; rfl
    · exact flats_ints _
    · show treeOf _ _ = _
      unfold treeOf
      simp only [e_set, cond_true, String.reduceBEq]
      rw [List.map_append]
theorem vals_std (h : List (List Nat × Int)) : ((h.map entS).map fun p => ((.str p.1, p.2) : PyData × PyData)).map (·.2) = intsP (h.map (·.2)) := by
  unfold intsP
  rw [List.map_map, List.map_map, List.map_map]; rfl
theorem flats_intsP : ∀ l : List Int, flats (intsP l) = true
  | [] => rfl
  | x :: l => by
    show (flat (.int x) && flats (intsP l)) = true
    rw [flats_intsP l]; rfl
theorem e_notin_ints (i : Int) (l : List Int) : aCmp .NotIn (.int i) (.list (intsP l)) = some (!decide (i ∈ l)) := by
  show (aCmp .In (.int i) (.list (intsP l))).map _ = _
  rw [e_in_ints]; rfl
theorem gone5_ok (B : Bui hb) {C V p : Addr} {mC mV : Str → Option Value} (KC : Cls storeNames hb C mC) (KV : Cls valNames hb V mV) (D : MethAt hb C "is_gone" (mthS pw 4 1) ["self", "value"] (mthB pw 4 1)) :
    ∃ m, MethP pw w hb 2 C "is_gone" m ∧ ∀ (st : Sta) (x y : Int), m [storeD C V p (stF5 st), valD V x y] = some (.bool (!decide (y ∈ st.opn.map (·.2)))) := by
  refine ⟨_, MethP.of D (n := 1) (St.cons (S1.ret (Ev.cmp (Ev.attr KC KV Ev.v (by intro _; with_unfolding_all rfl)) (Ev.listVals B (Ev.attr KC KV Ev.v (by intro _; with_unfolding_all rfl)) (by decide +kernel) (by intro _; rfl) (by rfl) (by intro _; rfl) (by intro _; rfl)) (by rfl)))
    St.nil) _ (fun _ _ h => h) (by decide), ?_⟩
  intro st x y
  refine fn_ret rfl (seqRet ?_)
  have h1 := attrS_standing C V p (stF5 st)
  rw [show (stF5 st).standing = stdP st.opn from rfl] at h1
  have h2 := attrS_opening C V x y
  simp only [run_eq, cond_true, cond_false, e_rho_nil, e_rho, e_fint, e_rv, e_ret, String.reduceBEq, Option.bind_eq_bind, Option.bind_some, Option.map_some, if_true, fix_store, fix_valD, h1, h2, fix_std, dict_std, vals_std, flats_intsP, e_notin_ints]
theorem lack5_ok (B : Bui hb) {C V p : Addr} {mC mV : Str → Option Value} (KC : Cls storeNames hb C mC) (KV : Cls valNames hb V mV) (D : MethAt hb C "lacking" (mthS pw 4 2) ["self", "name"] (mthB pw 4 2)) {m_g : List PyData → Option PyData} (h_is_gone : MethP pw w hb 2 C "is_gone" m_g)
    (e_g : ∀ (st : Sta) (x y : Int), m_g [storeD C V p (stF5 st), valD V x y] = some (.bool (!decide (y ∈ st.opn.map (·.2))))) :
    ∃ m, MethP pw w hb 3 C "lacking" m ∧ ∀ (st : Sta) (n : List Nat), HeldOk st n → m [storeD C V p (stF5 st), strP n] = some (strT (lackT st n)) := by
  refine ⟨_, MethP.of D (n := 2) (St.cons (S1.if (Tr.cmp Ev.v (Ev.attr KC KV Ev.v (by intro _; with_unfolding_all rfl))) (St.cons (S1.ret Ev.s)
      St.nil) St.nil)
    (St.cons (S1.if (Tr.val (Ev.meth (C := C) (Va := V) h_is_gone Ev.v (Evs.cons (Ev.idx (Ev.attr KC KV Ev.v (by intro _; with_unfolding_all rfl)) Ev.v) Evs.nil) (by decide) (by intro _; rfl) (by intro _; rfl) (by rfl) (by intro _; rfl)) (by intro _ _; rfl)) (St.cons (S1.ret Ev.s)
      St.nil) St.nil)
    (St.cons (S1.ret Ev.s)
    St.nil))) _ (fun _ _ h => h) (by decide), ?_⟩
  intro st n hh
  refine fn_ret rfl ?_
  have ha := attr_held5 C V p st
  have hsl := storeLike_store C V p (stF5 st)
  cases hl : st.held.lookup n with
  | none =>
    rw [show lackT st n = "nothing" by unfold lackT; rw [hl]]
    exact seqRet (ifR_yes (by simp only [tst_eq, cond_true, cond_false, e_rho_nil, e_rho, e_fstr, e_rv, String.reduceBEq, Option.bind_eq_bind, Option.bind_some, Option.map_some, Bool.not_false, fix_store, ha, fix_heldV, notin_heldV, hl, Option.isSome_none]) (by kernel_rfl))
  | some i =>
    have hi : IsHeld st n := ⟨i, hl, hh i hl⟩
    have hat := at_heldV V hi
    have e : heldOf st n = i := by unfold heldOf; rw [hl]; rfl
    rw [e] at hat
    rw [show lackT st n = if homeOf st i ∈ st.opn.map (·.2) then "" else "gone" by unfold lackT; rw [hl]]
    refine seq (ifR_no (by simp only [tst_eq, cond_true, cond_false, e_rho_nil, e_rho, e_fstr, e_rv, String.reduceBEq, Option.bind_eq_bind, Option.bind_some, Option.map_some, Bool.not_true, fix_store, ha, fix_heldV, notin_heldV, hl, Option.isSome_some]) rfl) ?_
    have hg := e_g st (amountOf st i) (homeOf st i)
    by_cases hin : homeOf st i ∈ st.opn.map (·.2)
    · rw [if_pos hin]
      rw [decide_eq_true hin] at hg
      exact seq (ifR_no (by simp only [tst_eq, cond_true, cond_false, e_rho_nil, e_rho, e_fstr, e_rv, e_tb, String.reduceBEq, Option.bind_eq_bind, Option.bind_some, Option.map_some, if_true, List.map_cons, List.map_nil, Bool.not_true, fix_store, ha, fix_heldV, hat, fix_valD, hsl, hg]) rfl) (by kernel_rfl)
    · rw [if_neg hin]
      rw [decide_eq_false hin] at hg
      exact seqRet (ifR_yes (by simp only [tst_eq, cond_true, cond_false, e_rho_nil, e_rho, e_fstr, e_rv, e_tb, String.reduceBEq, Option.bind_eq_bind, Option.bind_some, Option.map_some, if_true, List.map_cons, List.map_nil, Bool.not_false, fix_store, ha, fix_heldV, hat, fix_valD, hsl, hg]) (by kernel_rfl))
theorem e_ne_nil {k : Nat} {xs : List PyData} (h : plain k (.list xs)) (hk : k ≤ 60) : aCmp .NotEq (.list xs) (.list []) = some (!xs.isEmpty) := by
  have h0 : plain 1 (.list []) := plain_list (k := 0) fun x hx => nomatch hx
  show (cmpE _ _).map _ = _
  unfold cmpE
  rw [if_pos (by
    rw [h.1, h0.1]
    have := h.2
    simp only [Bool.and_self, Bool.true_and, decide_eq_true_eq]; lia)]
  cases xs with
  | nil => simp [PyData.eqv, PyData.eqvAll]
  | cons x xs => simp [PyData.eqv, PyData.eqvAll]
theorem up_std (st : Sta) : st.opn.map (·.1) = upOf st := rfl
theorem wrong5_ok (B : Bui hb) {C V p : Addr} {ps : List PyData} {mC mV : Str → Option Value} (KC : Cls storeNames hb C mC) (KV : Cls valNames hb V mV) (HP : ListAt pw w hb p ps) (D : MethAt hb C "wrong" (mthS pw 4 3) ["self", "row"] (mthB pw 4 3)) {m_o m_l : List PyData → Option PyData} (h_outward : DefG pw w hb 2 "outward" m_o) (h_lacking : MethP pw w hb 3 C "lacking" m_l)
    (e_l : ∀ (st : Sta) (n : List Nat), HeldOk st n → m_l [storeD C V p (stF5 st), strP n] = some (strT (lackT st n))) :
    ∃ m, MethP pw w hb 4 C "wrong" m ∧ ∀ (st : Sta) (r : Row) (c : List (List Nat)), (∀ k, r ≠ .fork k ∧ r ≠ .go k) → (∀ n ∈ asksOf r, HeldOk st n) → (∀ pl, r = .op pl → c ≠ [] ∧ c.length ≤ 900 ∧ m_o [.list ps, strP pl] = some (.list (c.map strP))) →
      m [storeD C V p (stF5 st), rowP r] = some (strT (wrongT c st r)) := by
  refine ⟨_, MethP.of D (n := 3) (St.cons (S1.if (Tr.cmp (Ev.idx Ev.v Ev.cint) Ev.s) (St.cons (S1.assign (Ev.slice (Ev.def h_outward (Evs.cons (Ev.plots (C := C) (Va := V) KC HP Ev.v (by intro _; with_unfolding_all rfl)) (Evs.cons (Ev.idx Ev.v Ev.cint) Evs.nil)) (by decide +kernel) (by decide) (by intro _; rfl)) (Pt.yes Ev.cint) Pt.no Pt.no (by intro _ _; exact ⟨_, rfl⟩)) (by decide +kernel))
      (St.cons (S1.if (Tr.cmp (Ev.idx Ev.v Ev.cint) (Ev.attr KC KV Ev.v (by intro _; with_unfolding_all rfl))) (St.cons (S1.ret Ev.s)
        St.nil) St.nil)
      (St.cons (S1.if (Tr.all (Trs.consAnd (Tr.cmp Ev.v (Ev.list Evs.nil)) (Trs.consAnd (Tr.cmp (Ev.idx Ev.v Ev.cint) (Ev.attr KC KV Ev.v (by intro _; with_unfolding_all rfl))) Trs.nilAnd))) (St.cons (S1.ret Ev.s)
        St.nil) St.nil)
      (St.cons (S1.ret Ev.s)
      St.nil)))) St.nil)
    (St.cons (S1.if (Tr.cmp (Ev.idx Ev.v Ev.cint) Ev.s) (St.cons (S1.ret (Ev.bin Ev.s (Ev.intOf B (Evs.cons (Ev.cmp (Ev.idx Ev.v Ev.cint) (Ev.attr KC KV Ev.v (by intro _; with_unfolding_all rfl)) (by rfl)) Evs.nil) (by decide +kernel) (by intro _; rfl))))
      St.nil) St.nil)
    (St.cons (S1.if (Tr.cmp (Ev.idx Ev.v Ev.cint) Ev.s) (St.cons (S1.ret (Ev.or2 (Ev.meth (C := C) (Va := V) h_lacking Ev.v (Evs.cons (Ev.idx Ev.v Ev.cint) Evs.nil) (by decide) (by intro _; rfl) (by intro _; rfl) (by rfl) (by intro _; rfl)) (Ev.bin Ev.s (Ev.intOf B (Evs.cons (Ev.cmp (Ev.idx Ev.v Ev.cint) (Ev.attr KC KV Ev.v (by intro _; with_unfolding_all rfl)) (by rfl)) Evs.nil) (by decide +kernel) (by intro _; rfl)))))
      St.nil) St.nil)
    (St.cons (S1.if (Tr.cmp (Ev.idx Ev.v Ev.cint) Ev.s) (St.cons (S1.ret (Ev.bin Ev.s (Ev.intOf B (Evs.cons (Ev.cmp (Ev.idx Ev.v Ev.cint) (Ev.attr KC KV Ev.v (by intro _; with_unfolding_all rfl)) (by rfl)) Evs.nil) (by decide +kernel) (by intro _; rfl))))
      St.nil) St.nil)
    (St.cons (S1.if (Tr.cmp (Ev.idx Ev.v Ev.cint) Ev.s) (St.cons (S1.ret (Ev.or2 (Ev.meth (C := C) (Va := V) h_lacking Ev.v (Evs.cons (Ev.idx Ev.v Ev.cint) Evs.nil) (by decide) (by intro _; rfl) (by intro _; rfl) (by rfl) (by intro _; rfl)) (Ev.meth (C := C) (Va := V) h_lacking Ev.v (Evs.cons (Ev.idx Ev.v Ev.cint) Evs.nil) (by decide) (by intro _; rfl) (by intro _; rfl) (by rfl) (by intro _; rfl))))
      St.nil) St.nil)
    (St.cons (S1.if (Tr.cmp (Ev.idx Ev.v Ev.cint) Ev.s) (St.cons (S1.ret (Ev.meth (C := C) (Va := V) h_lacking Ev.v (Evs.cons (Ev.idx Ev.v Ev.cint) Evs.nil) (by decide) (by intro _; rfl) (by intro _; rfl) (by rfl) (by intro _; rfl)))
      St.nil) St.nil)
    (St.cons (S1.if (Tr.cmp (Ev.idx Ev.v Ev.cint) Ev.s) (St.cons (S1.ret (Ev.bin Ev.s (Ev.intOf B (Evs.cons (Ev.cmp (Ev.idx Ev.v Ev.cint) (Ev.attr KC KV Ev.v (by intro _; with_unfolding_all rfl)) (by rfl)) Evs.nil) (by decide +kernel) (by intro _; rfl))))
      St.nil) St.nil)
    (St.cons (S1.ret (Ev.bin Ev.s (Ev.intOf B (Evs.cons (Ev.cmp (Ev.len B (Evs.cons (Ev.attr KC KV Ev.v (by intro _; with_unfolding_all rfl)) Evs.nil) (by decide +kernel) (by intro _; rfl)) Ev.cint (by rfl)) Evs.nil) (by decide +kernel) (by intro _; rfl))))
    St.nil)))))))) _ (fun _ _ h => h) (by decide), ?_⟩
  intro st r c hfg hh ho
  refine fn_ret rfl ?_
  have hat : attrS C V "standing" (storeD C V p (stF5 st)) = some (stdP st.opn) := attrS_standing ..
  have hah := attr_held5 C V p st
  have hsl := storeLike_store C V p (stF5 st)
  have hpl := plotsAt_store C V p ps (stF5 st)
  cases r with
  | op pl =>
    obtain ⟨hc, hcl, ho⟩ := ho pl rfl
    have hin := e_in_std pl st.opn
    rw [up_std] at hin
    obtain ⟨a, t, rfl⟩ : ∃ a t, c = a :: t := by
      cases c with
      | nil => exact absurd rfl hc
      | cons a t => exact ⟨a, t, rfl⟩
    have hsl : (((a :: t).map strP).take (clipHi none ((a :: t).map strP).length)).drop (clipLo (some 1) ((a :: t).map strP).length) = t.map strP := by
      simp only [clipHi, List.take_length]
      simp [clipLo]
    have hne := e_ne_nil (plain_map plain_strP t) (by decide)
    refine seqRet (ifR_yes (by kernel_rfl) ?_)
    generalize hL : (a :: t).map strP = L at ho hsl
    rw [hi_none] at hsl
    refine seq (by simp only [run_eq, cond_true, cond_false, e_rho_nil, e_rho, e_ftup, e_rv, e_putd, fix_d, fl_nil, fl_str, String.reduceBEq, e_idx_t, e_sll, hi_none, newL_d, Option.bind_eq_bind, Option.bind_some, Option.map_some, List.map_cons, List.map_nil, rowP, Row.parts, sq1, fix_store, hpl, ho, hsl]; rfl) ?_
    by_cases h1 : pl ∈ upOf st
    · rw [show wrongT (a :: t) st (.op pl) = "open already" from if_pos h1]
      rw [decide_eq_true h1] at hin
      exact seqRet (ifR_yes (by simp only [tst_eq, e_set, cond_true, cond_false, e_rho_nil, e_rho, e_ftup, e_rv, fix_d, fl_nil, fl_str, String.reduceBEq, e_idx_t, Option.bind_eq_bind, Option.bind_some, Option.map_some, sq1, fix_store, hat, fix_std, hin]) (by kernel_rfl))
    · rw [show wrongT (a :: t) st (.op pl) = (match t[0]? with | some q => if q ∈ upOf st then "" else "not open" | none => "") from if_neg h1]
      rw [decide_eq_false h1] at hin
      refine seq (ifR_no (by simp only [tst_eq, e_set, cond_true, cond_false, e_rho_nil, e_rho, e_ftup, e_rv, fix_d, fl_nil, fl_str, String.reduceBEq, e_idx_t, Option.bind_eq_bind, Option.bind_some, Option.map_some, sq1, fix_store, hat, fix_std, hin]) rfl) ?_
      cases t with
      | nil =>
        have hne' : aCmp .NotEq (.list []) (.list []) = some false := hne
        exact seq (ifR_no (by simp only [tst_eq, e_set, cond_true, cond_false, e_rho_nil, e_rho, e_ftup, e_rv, fix_d, fl_nil, fl_str, String.reduceBEq, e_idx_l, le_line, fls_nil, newL_d, Option.bind_eq_bind, Option.bind_some, if_true, if_false, Bool.false_eq_true, List.map_nil, List.length_nil, Nat.reduceLeDiff, hne']) rfl) (by kernel_rfl)
      | cons q t =>
        have hne' : aCmp .NotEq (.list (strP q :: t.map strP)) (.list []) = some true := hne
        have hq := e_notin_std q st.opn
        rw [up_std] at hq
        show _ = some (Out.ret (.str (Str.ofString (if q ∈ upOf st then "" else "not open"))))
        by_cases h2 : q ∈ upOf st
        · rw [if_pos h2]
          rw [decide_eq_true h2] at hq
          exact seq (ifR_no (by simp only [tst_eq, e_set, cond_true, cond_false, e_rho_nil, e_rho, e_ftup, e_rv, fix_d, fl_nil, fl_str, String.reduceBEq, e_idx_l, le_line, fls_nil, newL_d, Option.bind_eq_bind, Option.bind_some, Option.map_some, if_true, if_false, Bool.false_eq_true, List.map_cons, List.map_nil, List.length_nil, Nat.reduceLeDiff, Bool.not_true, hne', sq0, fix_store, hat, fix_std, hq]) rfl) (by kernel_rfl)
        · rw [if_neg h2]
          rw [decide_eq_false h2] at hq
          exact seqRet (ifR_yes (by simp only [tst_eq, e_set, cond_true, cond_false, e_rho_nil, e_rho, e_ftup, e_rv, fix_d, fl_nil, fl_str, String.reduceBEq, e_idx_l, le_line, fls_nil, newL_d, Option.bind_eq_bind, Option.bind_some, Option.map_some, if_true, List.map_cons, List.map_nil, List.length_nil, Nat.reduceLeDiff, Bool.not_false, hne', sq0, fix_store, hat, fix_std, hq]) (by kernel_rfl))
  | lay n pl i =>
    have hnin := e_notin_std pl st.opn
    rw [up_std] at hnin
    refine seq (ifR_no (by kernel_rfl) rfl) (seqRet (ifR_yes (by kernel_rfl) (seqRet ?_)))
    by_cases h1 : pl ∈ upOf st
    · rw [show wrongT c st (.lay n pl i) = "" from if_pos h1]
      rw [decide_eq_true h1] at hnin
      simp only [run_eq, cond_true, cond_false, e_rho_nil, e_rho, e_ftup, e_rv, fix_d, fl_nil, fl_int, fl_str, String.reduceBEq, e_idx_t, Option.bind_eq_bind, Option.bind_some, Option.map_some, if_false, Bool.false_eq_true, Bool.not_true, rowP, Row.parts, sq2, fix_store, hat, fix_std, hnin]; rfl
    · rw [show wrongT c st (.lay n pl i) = "not open" from if_neg h1]
      rw [decide_eq_false h1] at hnin
      simp only [run_eq, cond_true, cond_false, e_rho_nil, e_rho, e_ftup, e_rv, fix_d, fl_nil, fl_int, fl_str, String.reduceBEq, e_idx_t, Option.bind_eq_bind, Option.bind_some, Option.map_some, if_true, Bool.not_false, rowP, Row.parts, sq2, fix_store, hat, fix_std, hnin]; rfl
  | copy n o pl =>
    have hnin := e_notin_std pl st.opn
    rw [up_std] at hnin
    have hl := e_l st o (hh o (.head _))
    refine seq (ifR_no (by kernel_rfl) rfl) (seq (ifR_no (by kernel_rfl) rfl) (seqRet (ifR_yes (by kernel_rfl) (seqRet ?_))))
    rcases lackT_cases st o with oh | oh | oh
    · rw [show wrongT c st (.copy n o pl) = lackT st o from if_neg (by rw [oh]; decide), oh]
      rw [oh] at hl
      simp only [run_eq, cond_true, cond_false, e_rho_nil, e_rho, e_ftup, e_rv, fix_d, fl_nil, fl_str, String.reduceBEq, e_idx_t, Option.bind_eq_bind, Option.bind_some, Option.map_some, if_true, List.map_cons, List.map_nil, rowP, Row.parts, sq2, sq3, fix_store, hsl, hl]; rfl
    · rw [show wrongT c st (.copy n o pl) = lackT st o from if_neg (by rw [oh]; decide), oh]
      rw [oh] at hl
      simp only [run_eq, cond_true, cond_false, e_rho_nil, e_rho, e_ftup, e_rv, fix_d, fl_nil, fl_str, String.reduceBEq, e_idx_t, Option.bind_eq_bind, Option.bind_some, Option.map_some, if_true, List.map_cons, List.map_nil, rowP, Row.parts, sq2, sq3, fix_store, hsl, hl]; rfl
    · rw [show wrongT c st (.copy n o pl) = if pl ∈ upOf st then "" else "not open" from if_pos oh]
      rw [oh] at hl
      by_cases h1 : pl ∈ upOf st
      · rw [if_pos h1]
        rw [decide_eq_true h1] at hnin
        simp only [run_eq, cond_true, cond_false, e_rho_nil, e_rho, e_ftup, e_rv, fix_d, fl_nil, fl_str, String.reduceBEq, e_idx_t, Option.bind_eq_bind, Option.bind_some, Option.map_some, if_true, if_false, Bool.false_eq_true, List.map_cons, List.map_nil, Bool.not_true, rowP, Row.parts, sq2, sq3, fix_store, hsl, hl, hat, fix_std, hnin]; rfl
      · rw [if_neg h1]
        rw [decide_eq_false h1] at hnin
        simp only [run_eq, cond_true, cond_false, e_rho_nil, e_rho, e_ftup, e_rv, fix_d, fl_nil, fl_str, String.reduceBEq, e_idx_t, Option.bind_eq_bind, Option.bind_some, Option.map_some, if_true, List.map_cons, List.map_nil, Bool.not_false, rowP, Row.parts, sq2, sq3, fix_store, hsl, hl, hat, fix_std, hnin]; rfl
  | same n o =>
    refine seq (ifR_no (by kernel_rfl) rfl) (seq (ifR_no (by kernel_rfl) rfl) (seq (ifR_no (by kernel_rfl) rfl) (seqRet (ifR_yes (by kernel_rfl) (seqRet ?_)))))
    have hnin := notin_heldV V st o
    show _ = some (Out.ret (strT (if (st.held.lookup o).isSome then "" else "nothing")))
    cases hs : (st.held.lookup o).isSome with
    | true =>
      rw [hs] at hnin
      simp only [run_eq, cond_true, cond_false, e_rho_nil, e_rho, e_ftup, e_rv, fix_d, fl_nil, fl_str, String.reduceBEq, e_idx_t, Option.bind_eq_bind, Option.bind_some, Option.map_some, if_true, if_false, Bool.false_eq_true, Bool.not_true, rowP, Row.parts, sq2, fix_store, hah, fix_heldV, hnin]; rfl
    | false =>
      rw [hs] at hnin
      simp only [run_eq, cond_true, cond_false, e_rho_nil, e_rho, e_ftup, e_rv, fix_d, fl_nil, fl_str, String.reduceBEq, e_idx_t, Option.bind_eq_bind, Option.bind_some, Option.map_some, if_true, if_false, Bool.false_eq_true, Bool.not_false, rowP, Row.parts, sq2, fix_store, hah, fix_heldV, hnin]; rfl
  | add n o =>
    have hl := e_l st n (hh n (.head _))
    have hl2 := e_l st o (hh o (.tail _ (.head _)))
    refine seq (ifR_no (by kernel_rfl) rfl) (seq (ifR_no (by kernel_rfl) rfl) (seq (ifR_no (by kernel_rfl) rfl) (seq (ifR_no (by kernel_rfl) rfl) (seqRet (ifR_yes (by kernel_rfl) (seqRet ?_))))))
    rcases lackT_cases st n with oh | oh | oh
    · rw [show wrongT c st (.add n o) = lackT st n from if_neg (by rw [oh]; decide), oh]
      rw [oh] at hl
      simp only [run_eq, cond_true, cond_false, e_rho_nil, e_rho, e_ftup, e_rv, fix_d, fl_nil, fl_str, String.reduceBEq, e_idx_t, Option.bind_eq_bind, Option.bind_some, Option.map_some, if_true, List.map_cons, List.map_nil, rowP, Row.parts, sq1, sq2, fix_store, hsl, hl]; rfl
    · rw [show wrongT c st (.add n o) = lackT st n from if_neg (by rw [oh]; decide), oh]
      rw [oh] at hl
      simp only [run_eq, cond_true, cond_false, e_rho_nil, e_rho, e_ftup, e_rv, fix_d, fl_nil, fl_str, String.reduceBEq, e_idx_t, Option.bind_eq_bind, Option.bind_some, Option.map_some, if_true, List.map_cons, List.map_nil, rowP, Row.parts, sq1, sq2, fix_store, hsl, hl]; rfl
    · rw [show wrongT c st (.add n o) = lackT st o from if_pos oh]
      rw [oh] at hl
      simp only [run_eq, cond_true, cond_false, e_rho_nil, e_rho, e_ftup, e_rv, fix_d, fl_nil, fl_str, String.reduceBEq, e_idx_t, Option.bind_eq_bind, Option.bind_some, Option.map_some, if_true, List.map_cons, List.map_nil, rowP, Row.parts, sq1, sq2, fix_store, hsl, hl, hl2]; rfl
  | tell n =>
    have hl := e_l st n (hh n (.head _))
    refine seq (ifR_no (by kernel_rfl) rfl) (seq (ifR_no (by kernel_rfl) rfl) (seq (ifR_no (by kernel_rfl) rfl) (seq (ifR_no (by kernel_rfl) rfl) (seq (ifR_no (by kernel_rfl) rfl) (seqRet (ifR_yes (by kernel_rfl) (seqRet ?_)))))))
    show _ = some (Out.ret (strT (lackT st n)))
    simp only [run_eq, cond_true, cond_false, e_rho_nil, e_rho, e_ftup, e_rv, e_ret, fix_d, fl_nil, fl_str, String.reduceBEq, e_idx_t, Option.bind_eq_bind, Option.bind_some, Option.map_some, if_true, List.map_cons, List.map_nil, rowP, Row.parts, sq1, fix_store, hsl, hl]
  | give pl =>
    have hnin := e_notin_std pl st.opn
    rw [up_std] at hnin
    refine seq (ifR_no (by kernel_rfl) rfl) (seq (ifR_no (by kernel_rfl) rfl) (seq (ifR_no (by kernel_rfl) rfl) (seq (ifR_no (by kernel_rfl) rfl) (seq (ifR_no (by kernel_rfl) rfl) (seq (ifR_no (by kernel_rfl) rfl) (seqRet (ifR_yes (by kernel_rfl) (seqRet ?_))))))))
    by_cases h1 : pl ∈ upOf st
    · rw [show wrongT c st (.give pl) = "" from if_pos h1]
      rw [decide_eq_true h1] at hnin
      simp only [run_eq, cond_true, cond_false, e_rho_nil, e_rho, e_ftup, e_rv, fix_d, fl_nil, fl_str, String.reduceBEq, e_idx_t, Option.bind_eq_bind, Option.bind_some, Option.map_some, if_false, Bool.false_eq_true, Bool.not_true, rowP, Row.parts, sq1, fix_store, hat, fix_std, hnin]; rfl
    · rw [show wrongT c st (.give pl) = "not open" from if_neg h1]
      rw [decide_eq_false h1] at hnin
      simp only [run_eq, cond_true, cond_false, e_rho_nil, e_rho, e_ftup, e_rv, fix_d, fl_nil, fl_str, String.reduceBEq, e_idx_t, Option.bind_eq_bind, Option.bind_some, Option.map_some, if_true, Bool.not_false, rowP, Row.parts, sq1, fix_store, hat, fix_std, hnin]; rfl
  | fork k => exact absurd rfl (hfg k).1
  | go k => exact absurd rfl (hfg k).2
  | fin =>
    refine seq (ifR_no (by kernel_rfl) rfl) (seq (ifR_no (by kernel_rfl) rfl) (seq (ifR_no (by kernel_rfl) rfl) (seq (ifR_no (by kernel_rfl) rfl) (seq (ifR_no (by kernel_rfl) rfl) (seq (ifR_no (by kernel_rfl) rfl) (seq (ifR_no (by kernel_rfl) rfl) (seqRet ?_)))))))
    show _ = some (Out.ret (strT (if upOf st = [] then "" else "left")))
    have hu : upOf st = [] ↔ st.opn = [] := by unfold upOf; exact List.map_eq_nil_iff
    cases hop : st.opn with
    | nil =>
      rw [if_pos (hu.mpr hop)]
      rw [hop] at hat
      simp only [run_eq, cond_true, cond_false, e_rho_nil, e_rho, e_rv, e_gt, String.reduceBEq, Option.bind_eq_bind, Option.bind_some, Option.map_some, decide_eq_true_eq, List.length_nil, fix_store, hat, fix_std, len_std]; rfl
    | cons x up =>
      rw [if_neg (fun q => by rw [hu.mp q] at hop; cases hop)]
      rw [hop] at hat
      have hgt : decide ((((x :: up).length : Nat) : Int) > 0) = true := decide_eq_true (by simp)
      generalize hL : (x :: up).length = L at hgt
      simp only [run_eq, cond_true, cond_false, e_rho_nil, e_rho, e_rv, e_gt, String.reduceBEq, Option.bind_eq_bind, Option.bind_some, Option.map_some, if_true, fix_store, hat, fix_std, len_std, hL, hgt]; rfl
theorem addF_rec {C : Addr} {y : Str} {z : PyData} {rs : List (Str × Addr)} {fs : List (Str × PyData)} (h1 : rawHas y (rs.map fun q => .tuple [.str q.1, .int q.2]) = false) (h2 : hasKey y (fs.map fun p => (.str p.1, p.2)) = false) (h3 : rs.length + fs.length ≤ 18) : addF C y z (recD C rs fs) = some (recD C rs (fs ++ [(y, z)])) := by
  unfold addF
  rw [instP_rec, Option.bind_some, if_pos ⟨h1, h2, by simpa using h3⟩]
  unfold recD
  rw [List.map_append]; rfl
theorem seqA {C : Addr} {x y : String} {m : Rho → Option PyData} {m' : Rho → Option Out} {ρ : Rho} {ro : Option Addr} {z : PyData} {rs : List (Str × Addr)} {fs : List (Str × PyData)} {P : Rho → Prop} (h : ρ x = some (.own (.tree ro (recD C rs fs)))) (hz : m ρ = some z) (h1 : rawHas (Str.ofString y) (rs.map fun q => .tuple [.str q.1, .int q.2]) = false) (h2 : hasKey (Str.ofString y) (fs.map fun p => (.str p.1, p.2)) = false) (h3 : rs.length + fs.length ≤ 18)
    (h' : ∀ ρ', ρ' x = some (.own (.tree ro (recD C rs (fs ++ [(Str.ofString y, z)])))) → ∃ ρ₂, m' ρ' = some (.next ρ₂) ∧ P ρ₂) : ∃ ρ₂, ((mSetA C x y m ρ).bind (thenB m')) = some (.next ρ₂) ∧ P ρ₂ := by
  have e : mSetA C x y m ρ = some (.next (ρ.set x (.own (.tree ro (recD C rs (fs ++ [(Str.ofString y, z)])))))) := by
    unfold mSetA
    rw [show treeOf ρ x = some (ro, recD C rs fs) by unfold treeOf; rw [h], Option.bind_some, hz, Option.bind_some, addF_rec h1 h2 h3]; rfl
  rw [e]
  exact h' _ (by rw [set_if]; exact if_pos rfl)
theorem init4_ok {C : Addr} {mC : Str → Option Value} (KC : Cls storeNames hb C mC) (D : MethAt hb C "__init__" (mthS pw 4 0) ["self", "plots"] (mthB pw 4 0)) : StoreInit pw w hb 3 C := by
  obtain ⟨mC', f, fo, fd, r, KC', h1, h2, h3, h4, h5, D⟩ := D
  refine ⟨mC', f, fo, _, _, _, _, _, _, _, KC', h1, h2, h3, D, by decide +kernel, (St.cons (S1.setAttr KC EvT.nil (by decide) (by decide +kernel) (by decide +kernel) (by intro _; rfl))
    (St.cons (S1.setAttr KC (EvT.flat Ev.cint) (by decide) (by decide +kernel) (by decide +kernel) (by intro _; rfl))
    (St.cons (S1.setAttr KC EvT.nil (by decide) (by decide +kernel) (by decide +kernel) (by intro _; rfl))
    (St.cons (S1.setAttr KC EvT.emp (by decide) (by decide +kernel) (by decide +kernel) (by intro _; rfl))
    (St.cons (S1.setAttr KC EvT.emp (by decide) (by decide +kernel) (by decide +kernel) (by intro _; rfl))
    St.nil))))), fun a p ρ h => ?_⟩
  refine seqA h rfl rfl rfl (Nat.le_of_ble_eq_true rfl) fun ρ h => seqA h rfl rfl (by decide +kernel) (Nat.le_of_ble_eq_true rfl) fun ρ h => seqA h rfl rfl (by decide +kernel) (Nat.le_of_ble_eq_true rfl) fun ρ h => seqA h rfl rfl (by decide +kernel) (Nat.le_of_ble_eq_true rfl) fun ρ h => seqA h rfl rfl (by decide +kernel) (Nat.le_of_ble_eq_true rfl) fun ρ h => ⟨ρ, rfl, h⟩
theorem mSetA_run {C : Addr} {x y : String} {m : Rho → Option PyData} {ρ : Rho} {ro : Option Addr} {z : PyData} {rs : List (Str × Addr)} {fs : List (Str × PyData)} (h : treeOf ρ x = some (ro, recD C rs fs)) (hz : m ρ = some z) (h1 : rawHas (Str.ofString y) (rs.map fun q => .tuple [.str q.1, .int q.2]) = false) (h2 : hasKey (Str.ofString y) (fs.map fun p => (.str p.1, p.2)) = false) (h3 : rs.length + fs.length ≤ 18) :
    mSetA C x y m ρ = some (.next (ρ.set x (.own (.tree ro (recD C rs (fs ++ [(Str.ofString y, z)])))))) := by
  unfold mSetA
  rw [h, Option.bind_some, hz, Option.bind_some, addF_rec h1 h2 h3]; rfl
theorem initv_ok {V : Addr} {mV : Str → Option Value} (KV : Cls valNames hb V mV) (D : (∃ mC f fo fd r, Cls valNames hb V mC ∧ mC (Str.ofString "__init__") = some (.ref f) ∧ hb.get? f = some fo ∧ fo.cls = .type "function" ∧ fo.data = .func fd ∧ typeLookup (.type "object") (Str.ofString "__init__") = pure r ∧ DefOk hb f (mthS pw 3 0) ["self", "amount", "opening"] (mthB pw 3 0))) : ∃ m, InitM pw w hb 3 V ["amount", "opening"] m ∧ ∀ x y : Int, m [recD V [] [], .int x, .int y] = some (newV V (x, y)) := by
  refine ⟨_, InitM.of (n := 2) D (St.cons (S1.setAttr KV (EvT.flat Ev.v) (by decide) (by decide +kernel) (by decide +kernel) (by intro _; rfl))
    (St.cons (S1.setAttr KV (EvT.flat Ev.v) (by decide) (by decide +kernel) (by decide +kernel) (by intro _; rfl))
    St.nil)) (fun a xs d' h => procS_all h a), ?_⟩
  intro x y
  refine procS_of fun a => proc_ex (d := recD V [] []) rfl rfl ?_
  refine seqN (mSetA_run (ro := some a) (rs := []) (fs := []) (z := .int x) rfl (by kernel_rfl) rfl rfl (Nat.le_of_ble_eq_true rfl)) ?_
  refine seqN (mSetA_run (ro := some a) (rs := []) (fs := [(Str.ofString "amount", .int x)]) (z := .int y) rfl (by kernel_rfl) rfl (by kernel_rfl) (Nat.le_of_ble_eq_true rfl)) (doneN rfl)
theorem setN_held {h : List (List Nat × Int)} (hn : (h.map (·.1)).Nodup) (n : List Nat) (i : Int) : heldS (setH h n i) = setN (heldS h) (S n) i.toNat := by
  have key : ∀ h : List (List Nat × Int), (heldS h).any (fun p => decide (p.1 = S n)) = (h.lookup n).isSome := by
    intro h
    induction h with
    | nil => rfl
    | cons q h ih =>
      show (decide (S q.1 = S n) || (heldS h).any fun p => decide (p.1 = S n)) = _
      rw [ih, List.lookup_cons]
      by_cases e : n = q.1
      · subst e; rw [decide_eq_true rfl, beq_self_eq_true]; rfl
      · rw [decide_eq_false fun z => e (S_inj z).symm, beq_eq_false_iff_ne.mpr e]; rfl
  have none : ∀ h : List (List Nat × Int), n ∉ h.map (·.1) → (heldS h).map (fun p => if p.1 = S n then (p.1, i.toNat) else p) = heldS h := by
    intro h hm
    unfold heldS
    rw [List.map_map]
    refine List.map_congr_left fun q hq => ?_
    exact if_neg fun e => hm (List.mem_map.mpr ⟨q, hq, S_inj e⟩)
  unfold setH setN
  rw [key]
  cases (h.lookup n).isSome with
  | false =>
    rw [if_neg (by simp), if_neg (by simp)]
    unfold heldS
    rw [List.map_append]; rfl
  | true =>
    rw [if_pos rfl, if_pos rfl]
    induction h with
    | nil => rfl
    | cons q h ih =>
      rw [List.map_cons, List.nodup_cons] at hn
      unfold putF
      by_cases e : q.1 = n
      · rw [if_pos e]
        show (S q.1, i.toNat) :: heldS h = (if S q.1 = S n then (S q.1, i.toNat) else (S q.1, q.2.toNat)) :: (heldS h).map _
        rw [if_pos (by rw [e]), none h (e ▸ hn.1)]
      · rw [if_neg e]
        show (S q.1, q.2.toNat) :: heldS (putF n i h) = (if S q.1 = S n then (S q.1, i.toNat) else (S q.1, q.2.toNat)) :: (heldS h).map _
        rw [if_neg fun z => e (S_inj z), ih hn.2]
theorem look_held (n : List Nat) : ∀ h : List (List Nat × Int), lookN (heldS h) (S n) = (h.lookup n).map Int.toNat
  | [] => rfl
  | q :: h => by
    have ih := look_held n h
    unfold lookN heldS at ih ⊢
    rw [List.map_cons, List.find?_cons, List.lookup_cons]
    by_cases e : n = q.1
    · subst e; simp
    · rw [beq_eq_false_iff_ne.mpr e]
      have : decide ((S q.1, q.2.toNat).1 = S n) = false := decide_eq_false fun z => e (S_inj z).symm
      rw [this]; exact ih
theorem IsHeld.look {st : Sta} {n : List Nat} (h : IsHeld st n) : lookN (heldS st.held) (S n) = some (heldOf st n).toNat := by
  obtain ⟨i, h1, _⟩ := h
  rw [look_held, h1]
  unfold heldOf; rw [h1]; rfl
structure Good5 (st : Sta) : Prop where
  upn : (upOf st).Nodup
  hn : (st.held.map (·.1)).Nodup
  opn : st.opn.length ≤ 900
  held : st.held.length ≤ 900
  worth : st.worth.length ≤ 900
  told : st.told.length ≤ 900
theorem home_std {st : Sta} {p : List Nat} (h : p ∈ upOf st) (hn : (upOf st).Nodup) : aIdx (stdP st.opn) (strP p) = some (.int (homeAt st p)) := at_std hn (homeAt_mem h)
theorem do5_ok (B : Bui hb) {C V p : Addr} {mC mV : Str → Option Value} (KC : Cls storeNames hb C mC) (KV : Cls valNames hb V mV) (hgV : GName hb "Value" (.ref V)) {m_v : List PyData → Option PyData} (IV : InitM pw w hb 3 V ["amount", "opening"] m_v) (e_v : ∀ x y : Int, m_v [recD V [] [], .int x, .int y] = some (newV V (x, y))) (D : MethAt hb C "do" (mthS pw 4 5) ["self", "row"] (mthB pw 4 5)) {m_w : List PyData → Option PyData} (h_wrong : MethP pw w hb 4 C "wrong" m_w)
    {m_g : List PyData → Option (PyData × PyData)} (h_give : MethR pw w hb 4 C "give" "self" "plot" m_g) :
    ∃ m, MethR pw w hb 6 C "do" "self" "row" m ∧ ∀ (ps : Plots) (st : Sta) (r : Row) (word : String), m_w [storeD C V p (stF5 st), rowP r] = some (strT word) →
      (word ≠ "" → m [storeD C V p (stF5 st), rowP r] = some (strT word, storeD C V p (stF5 st))) ∧
      (word = "" → Good5 st → Needs st r → (∀ pl, r = .op pl → pl ∉ upOf st) → (∀ pl, r = .give pl → m_g [storeD C V p (stF5 st), strP pl] = some (.none, storeD C V p (stF5 (deedT ps st r)))) → (∀ k, r ≠ .fork k ∧ r ≠ .go k) →
        m [storeD C V p (stF5 st), rowP r] = some (strT "", storeD C V p (stF5 (deedT ps st r)))) := by
  refine ⟨_, MethR.of D (n := 5) (St.cons (S1.assign (Ev.meth (C := C) (Va := V) h_wrong Ev.v (Evs.cons Ev.v Evs.nil) (by decide) (by intro _; rfl) (by intro _; rfl) (by rfl) (by intro _; rfl)) (by decide +kernel))
    (St.cons (S1.if (Tr.cmp Ev.v Ev.s) (St.cons (S1.retT Ev.v)
      St.nil) St.nil)
    (St.cons (S1.if (Tr.cmp (Ev.idx Ev.v Ev.cint) Ev.s) (St.cons (S1.pSet (Pa.attr (Va := V) KC (Pa.name (by decide +kernel)) (by intro _; with_unfolding_all rfl)) (Ev.idx Ev.v Ev.cint) (Ev.attr KC KV Ev.v (by intro _; with_unfolding_all rfl)) (by intro _; rfl))
      (St.cons (S1.opened (Va := V) KC Ev.cint (by decide +kernel))
      St.nil)) (St.cons (S1.if (Tr.cmp (Ev.idx Ev.v Ev.cint) Ev.s) (St.cons (S1.heldNew (Va := V) KC (Ev.idx Ev.v Ev.cint) (EvT.new IV hgV (Evs.cons (Ev.idx Ev.v Ev.cint) (Evs.cons (Ev.idx (Ev.attr KC KV Ev.v (by intro _; with_unfolding_all rfl)) (Ev.idx Ev.v Ev.cint)) Evs.nil)) (by decide) (by decide +kernel) (by intro _; rfl) (by intro _; rfl)) (by decide +kernel))
        St.nil) (St.cons (S1.if (Tr.cmp (Ev.idx Ev.v Ev.cint) Ev.s) (St.cons (S1.heldNew (Va := V) KC (Ev.idx Ev.v Ev.cint) (EvT.new IV hgV (Evs.cons (Ev.attr KC KV (Ev.idx (Ev.attr KC KV Ev.v (by intro _; with_unfolding_all rfl)) (Ev.idx Ev.v Ev.cint)) (by intro _; with_unfolding_all rfl)) (Evs.cons (Ev.idx (Ev.attr KC KV Ev.v (by intro _; with_unfolding_all rfl)) (Ev.idx Ev.v Ev.cint)) Evs.nil)) (by decide) (by decide +kernel) (by intro _; rfl) (by intro _; rfl)) (by decide +kernel))
          St.nil) (St.cons (S1.if (Tr.cmp (Ev.idx Ev.v Ev.cint) Ev.s) (St.cons (S1.heldSame (Va := V) KC (Ev.idx Ev.v Ev.cint) (Ev.idx Ev.v Ev.cint) (by decide +kernel) (by intro _ _; exact ⟨_, rfl⟩))
            St.nil) (St.cons (S1.if (Tr.cmp (Ev.idx Ev.v Ev.cint) Ev.s) (St.cons (S1.heldAdd (Va := V) KC KV (Ev.idx Ev.v Ev.cint) (Ev.attr KC KV (Ev.idx (Ev.attr KC KV Ev.v (by intro _; with_unfolding_all rfl)) (Ev.idx Ev.v Ev.cint)) (by intro _; with_unfolding_all rfl)) (by decide +kernel) (by intro _ _; exact ⟨_, rfl⟩))
              St.nil) (St.cons (S1.if (Tr.cmp (Ev.idx Ev.v Ev.cint) Ev.s) (St.cons (S1.pAppend (Pa.attr (Va := V) KC (Pa.name (by decide +kernel)) (by intro _; with_unfolding_all rfl)) (Ev.attr KC KV (Ev.idx (Ev.attr KC KV Ev.v (by intro _; with_unfolding_all rfl)) (Ev.idx Ev.v Ev.cint)) (by intro _; with_unfolding_all rfl)) (by intro _; rfl) (by rfl) (by intro _; rfl) (by intro env h; unfold interactive; rw [h]; rfl))
                St.nil) (St.cons (S1.if (Tr.cmp (Ev.idx Ev.v Ev.cint) Ev.s) (St.cons (S1.methE (Va := V) h_give (Evs.cons (Ev.idx Ev.v Ev.cint) Evs.nil) (by decide +kernel) (by decide) (by intro _; rfl) (by intro _; rfl) (by rfl) (by intro _; rfl) (by intro env h; unfold interactive; rw [h]; rfl))
                  St.nil) St.nil)
                St.nil))
              St.nil))
            St.nil))
          St.nil))
        St.nil))
      St.nil))
    (St.cons (S1.retT Ev.s)
    St.nil)))) _ (fun a xs r h => procRS_all h a) (by decide) (by decide), ?_⟩
  intro ps st r word hw
  have hsl := storeLike_store C V p (stF5 st)
  refine ⟨fun hne => procRS_of fun a => procR_of rfl rfl ?_, fun he G hn hop hgv hfg => procRS_of fun a => procR_of rfl rfl ?_⟩
  · have hb : (word == "") = false := beq_eq_false_iff_ne.mpr hne
    refine seqOnT (by simp only [run_eq, e_set, cond_true, cond_false, e_rho_nil, e_rho, e_rv, e_putd, String.reduceBEq, Option.bind_eq_bind, Option.bind_some, Option.map_some, if_true, List.map_cons, List.map_nil, e_rtT, fix_row, hsl, hw]; rfl) (seqRetT ⟨_, _, ifR_yes (by simp only [tst_eq, e_set, cond_true, cond_false, e_rho_nil, e_rho, e_rv, e_nes, ofS_beq, String.reduceBEq, Option.bind_eq_bind, Option.bind_some, Bool.not_false, hb]) (by simp only [run_eq, e_set, cond_true, cond_false, e_rho_nil, e_rho, e_rv, String.reduceBEq, Option.bind_some]; rfl), rfl, ?_⟩)
    rfl
  subst he
  have hst : attrS C V "standing" (storeD C V p (stF5 st)) = some (stdP st.opn) := attrS_standing ..
  have hah := attr_held5 C V p st
  have r1 := G.opn
  have r2 := G.held
  have r3 := G.worth
  have r4 := G.told
  refine seqOnT (by simp only [run_eq, e_set, cond_true, cond_false, e_rho_nil, e_rho, e_rv, e_putd, String.reduceBEq, Option.bind_eq_bind, Option.bind_some, Option.map_some, if_true, List.map_cons, List.map_nil, e_rtT, fix_row, hsl, hw]; rfl) (seqOnT (ifR_no (by kernel_rfl) rfl) ?_)
  cases r with
  | op pl =>
    have hpl := hop pl rfl
    have hpa : placeA C V "standing" (storeD C V p (stF5 st)) = some (stdP st.opn, fun z => storeD C V p ((stF5 st).put 2 z)) := placeA_store C V p (stF5 st) (i := 2) (y := "standing") rfl
    have ho : attrS C V "opened" (storeD C V p (stF5 st)) = some (.int st.many) := attrS_opened ..
    refine seqOnT (ifR_yes (by kernel_rfl) (seq (run_pSet (hpk := by first | rfl | exact plainK_map _ _ _) (ro := some a) (d := storeD C V p (stF5 st)) ((st.opn.map entS).map fun p => (.str p.1, p.2)) (S pl) (.int st.many) (fun z => storeD C V p ((stF5 st).put 2 z)) rfl (v := ⟨.int st.many, .d⟩) (by simp only [evl_eq, e_set, cond_true, cond_false, e_rho_nil, e_rho, e_fint, String.reduceBEq, Option.bind_some, Option.map_some, e_rtT, ho]) rfl ?_ (k := ⟨strP pl, .d⟩) (by kernel_rfl) rfl rfl (le_line (by simp; lia)) (d' := storeD C V p { stF5 st with standing := stdP (st.opn ++ [(pl, st.many)]) }) ?_) (seq (mOpened_run (ro := some a) (f := { stF5 st with standing := stdP (st.opn ++ [(pl, st.many)]) }) (b := 1) rfl rfl) rfl))) (seqRetT ⟨_, _, by simp only [run_eq, Option.bind_some]; rfl, rfl, ?_⟩)
    · show (placeA C V "standing" (storeD C V p (stF5 st))).map _ = _
      rw [hpa]; rfl
    · rw [std_set hpl]; rfl
    · rfl
  | lay n pl i =>
    have hho := home_std (show pl ∈ upOf st from hn) G.upn
    refine seqOnT (ifR_no (by kernel_rfl) (seq (ifR_yes (by kernel_rfl) (seq (mHeldNew_run (ro := some a) (f := stF5 st) (v := (i, homeAt st pl)) (ki := S n) (fi := .d) rfl ?_ ?_ ?_ ?_) rfl)) rfl)) (seqRetT ⟨_, _, by simp only [run_eq, Option.bind_some]; rfl, rfl, ?_⟩)
    · simp only [e_set, cond_true, cond_false, e_rho_nil, e_rho, e_fint, e_ftup, e_rv, fix_d, fl_nil, fl_int, fl_str, String.reduceBEq, e_idx_t, Option.bind_eq_bind, Option.bind_some, Option.map_some, if_true, List.map_cons, List.map_nil, List.length_cons, List.length_nil, Nat.reduceAdd, e_rtT, rowP, Row.parts, sq2, sq3, fix_store, hst, fix_std, hho, e_v]
    · kernel_rfl
    · exact le_line (by show (heldS st.held).length + 1 ≤ 1000; unfold heldS; rw [List.length_map]; lia)
    · exact le_line (by show st.worth.length + 1 ≤ 1000; lia)
    · rw [show stF5 (deedT ps st (.lay n pl i)) = { stF5 st with held := setN (heldS st.held) (S n) st.worth.length, worth := st.worth ++ [(i, homeAt st pl)] } by
        show (⟨_, _, _, _, heldS (setH st.held n st.worth.length), _⟩ : StF) = _
        rw [setN_held G.hn]; rfl]
      kernel_rfl
  | copy n o pl =>
    have hho := home_std (show pl ∈ upOf st from hn.2) G.upn
    have hat := at_heldV V hn.1
    have ham := attrS_amount C V (amountOf st (heldOf st o)) (homeOf st (heldOf st o))
    refine seqOnT (ifR_no (by kernel_rfl) (seq (ifR_no (by kernel_rfl) (seq (ifR_yes (by kernel_rfl) (seq (mHeldNew_run (ro := some a) (f := stF5 st) (v := (amountOf st (heldOf st o), homeAt st pl)) (ki := S n) (fi := .d) rfl ?_ ?_ ?_ ?_) rfl)) rfl)) rfl)) (seqRetT ⟨_, _, by simp only [run_eq, Option.bind_some]; rfl, rfl, ?_⟩)
    · simp only [e_set, cond_true, cond_false, e_rho_nil, e_rho, e_fint, e_ftup, e_rv, fix_d, fl_nil, fl_str, String.reduceBEq, e_idx_t, Option.bind_eq_bind, Option.bind_some, Option.map_some, if_true, List.map_cons, List.map_nil, List.length_cons, List.length_nil, Nat.reduceAdd, e_rtT, rowP, Row.parts, sq2, sq3, fix_store, hst, fix_std, hho, hah, fix_heldV, hat, fix_valD, ham, e_v]
    · kernel_rfl
    · exact le_line (by show (heldS st.held).length + 1 ≤ 1000; unfold heldS; rw [List.length_map]; lia)
    · exact le_line (by show st.worth.length + 1 ≤ 1000; lia)
    · rw [show stF5 (deedT ps st (.copy n o pl)) = { stF5 st with held := setN (heldS st.held) (S n) st.worth.length, worth := st.worth ++ [(amountOf st (heldOf st o), homeAt st pl)] } by
        show (⟨_, _, _, _, heldS (setH st.held n st.worth.length), _⟩ : StF) = _
        rw [setN_held G.hn]; rfl]
      kernel_rfl
  | same n o =>
    refine seqOnT (ifR_no (by kernel_rfl) (seq (ifR_no (by kernel_rfl) (seq (ifR_no (by kernel_rfl) (seq (ifR_yes (by kernel_rfl) (seq (mHeldSame_run (ro := some a) (f := stF5 st) (ki := S n) (kj := S o) (fi := .d) (fj := .d) (j := (heldOf st o).toNat) rfl ?_ ?_ ?_ ?_) rfl)) rfl)) rfl)) rfl)) (seqRetT ⟨_, _, by simp only [run_eq, Option.bind_some]; rfl, rfl, ?_⟩)
    · kernel_rfl
    · exact IsHeld.look (show IsHeld st o from hn)
    · kernel_rfl
    · exact le_line (by show (heldS st.held).length + 1 ≤ 1000; unfold heldS; rw [List.length_map]; lia)
    · rw [show stF5 (deedT ps st (.same n o)) = { stF5 st with held := setN (heldS st.held) (S n) (heldOf st o).toNat } by
        show (⟨_, _, _, _, heldS (setH st.held n (heldOf st o)), _⟩ : StF) = _
        rw [setN_held G.hn]; rfl]
      kernel_rfl
  | add n o =>
    have hat := at_heldV V hn.2
    have ham := attrS_amount C V (amountOf st (heldOf st o)) (homeOf st (heldOf st o))
    refine seqOnT (ifR_no (by kernel_rfl) (seq (ifR_no (by kernel_rfl) (seq (ifR_no (by kernel_rfl) (seq (ifR_no (by kernel_rfl) (seq (ifR_yes (by kernel_rfl) (seq (mHeldAdd_run (ro := some a) (f := stF5 st) (ki := S n) (fi := .d) (fu := .d) (j := (heldOf st n).toNat) (v := (amountOf st (heldOf st n), homeOf st (heldOf st n))) (b := amountOf st (heldOf st o)) rfl ?_ ?_ ?_ ?_) rfl)) rfl)) rfl)) rfl)) rfl)) (seqRetT ⟨_, _, by simp only [run_eq, Option.bind_some]; rfl, rfl, ?_⟩)
    · kernel_rfl
    · exact hn.1.look
    · exact hn.1.at.2.2
    · simp only [e_set, cond_true, cond_false, e_rho_nil, e_rho, e_fint, e_ftup, e_rv, fix_d, fl_nil, fl_str, String.reduceBEq, e_idx_t, Option.bind_eq_bind, Option.bind_some, Option.map_some, e_rtT, rowP, Row.parts, sq2, fix_store, hah, fix_heldV, hat, fix_valD, ham]
    · kernel_rfl
  | tell n =>
    have hat := at_heldV V (show IsHeld st n from hn)
    have ham := attrS_amount C V (amountOf st (heldOf st n)) (homeOf st (heldOf st n))
    have hpa : placeA C V "told" (storeD C V p (stF5 st)) = some (.list (intsP st.told), fun z => storeD C V p ((stF5 st).put 0 z)) := placeA_store C V p (stF5 st) (i := 0) (y := "told") rfl
    refine seqOnT (ifR_no (by kernel_rfl) (seq (ifR_no (by kernel_rfl) (seq (ifR_no (by kernel_rfl) (seq (ifR_no (by kernel_rfl) (seq (ifR_no (by kernel_rfl) (seq (ifR_yes (by kernel_rfl) (seq (run_pAppend (ro := some a) (d := storeD C V p (stF5 st)) (intsP st.told) (.int (amountOf st (heldOf st n))) (fun z => storeD C V p ((stF5 st).put 0 z)) rfl ?_ (v := ⟨.int (amountOf st (heldOf st n)), .d⟩) ?_ rfl rfl ?_ (d' := storeD C V p (stF5 (deedT ps st (.tell n)))) ?_) rfl)) rfl)) rfl)) rfl)) rfl)) rfl)) (seqRetT ⟨_, _, by simp only [run_eq, Option.bind_some]; rfl, rfl, ?_⟩)
    · show (placeA C V "told" (storeD C V p (stF5 st))).map _ = _
      rw [hpa]; rfl
    · simp only [evl_eq, e_set, cond_true, cond_false, e_rho_nil, e_rho, e_fint, e_ftup, e_rv, fix_d, fl_nil, fl_str, String.reduceBEq, e_idx_t, Option.bind_eq_bind, Option.bind_some, Option.map_some, e_rtT, rowP, Row.parts, sq1, fix_store, hah, fix_heldV, hat, fix_valD, ham]
    · exact le_line (by unfold intsP; rw [List.length_map]; lia)
    · show storeD C V p _ = storeD C V p ⟨.list (intsP (st.told ++ [amountOf st (heldOf st n)])), _, _, _, _, _⟩
      unfold intsP
      rw [List.map_append]; rfl
    · kernel_rfl
  | give pl =>
    refine seqOnT (ifR_no (by kernel_rfl) (seq (ifR_no (by kernel_rfl) (seq (ifR_no (by kernel_rfl) (seq (ifR_no (by kernel_rfl) (seq (ifR_no (by kernel_rfl) (seq (ifR_no (by kernel_rfl) (seq (ifR_yes (by kernel_rfl) (seq (mMeth_run (ro := some a) (f := stF5 st) (f' := stF5 (deedT ps st (.give pl))) (v := ⟨strP pl, .d⟩) (z := .none) rfl (by kernel_rfl) rfl (hgv pl rfl) rfl rfl) rfl)) rfl)) rfl)) rfl)) rfl)) rfl)) rfl)) (seqRetT ⟨_, _, by simp only [run_eq, Option.bind_some]; rfl, rfl, ?_⟩)
    kernel_rfl
  | fork k => exact absurd rfl (hfg k).1
  | go k => exact absurd rfl (hfg k).2
  | fin =>
    refine seqOnT (ifR_no (by kernel_rfl) (seq (ifR_no (by kernel_rfl) (seq (ifR_no (by kernel_rfl) (seq (ifR_no (by kernel_rfl) (seq (ifR_no (by kernel_rfl) (seq (ifR_no (by kernel_rfl) (seq (ifR_no (by kernel_rfl) rfl) rfl)) rfl)) rfl)) rfl)) rfl)) rfl)) (seqRetT ⟨_, _, by simp only [run_eq, Option.bind_some]; rfl, rfl, ?_⟩)
    kernel_rfl
theorem forD_seek {bind : V → Rho → Option Rho} {body : Rho → Option Out} {f : Fl} (P : Rho → Prop) (Q G : PyData → Prop) : ∀ {xs : List PyData} {ρ : Rho}, P ρ →
    (∀ x ∈ xs, ∀ ρ, P ρ → ∃ ρ₁, bind (V.fix x f) ρ = some ρ₁ ∧ ((∃ y, Q y ∧ run body ρ₁ = some (.ret y)) ∨ (¬ G x ∧ ∃ ρ₂, run body ρ₁ = some (.next ρ₂) ∧ P ρ₂))) → (∃ y, Q y ∧ forD bind body f xs ρ = some (.ret y)) ∨ ((∀ x ∈ xs, ¬ G x) ∧ ∃ ρ', forD bind body f xs ρ = some (.next ρ') ∧ P ρ')
  | [], ρ, h, _ => .inr ⟨fun x hx => (List.not_mem_nil hx).elim, ρ, rfl, h⟩
  | x :: xs, ρ, h, hs => by
    obtain ⟨ρ₁, h1, h2⟩ := hs x (.head _) ρ h
    rcases h2 with ⟨y, hy, h2⟩ | ⟨hg, ρ₂, h2, h3⟩
    · exact .inl ⟨y, hy, forD_ret h1 h2⟩
    · rcases forD_seek P Q G h3 fun z hz => hs z (.tail _ hz) with ⟨y, hy, h4⟩ | ⟨hg', ρ', h4, h5⟩
      · exact .inl ⟨y, hy, forD_next h1 h2 h4⟩
      · refine .inr ⟨fun z hz => ?_, ρ', forD_next h1 h2 h4, h5⟩
        rcases List.mem_cons.mp hz with rfl | hz
        · exact hg
        · exact hg' z hz
section
variable {x m' : Rho → Option Out} {ρ ρ₁ : Rho} {Q : PyData → Prop} {P P' : Rho → Prop}
theorem seqO (P : Rho → Prop) (h : (∃ y, Q y ∧ run x ρ = some (.ret y)) ∨ ∃ ρ', run x ρ = some (.next ρ') ∧ P ρ') (h' : ∀ ρ', P ρ' → ∃ y, Q y ∧ run m' ρ' = some (.ret y)) : ∃ y, Q y ∧ run (fun ρ => (x ρ).bind (thenB m')) ρ = some (.ret y) := by
  rcases h with ⟨y, hq, h⟩ | ⟨ρ', h, hp⟩
  · exact ⟨y, hq, seqRet h⟩
  · obtain ⟨y, hq, h2⟩ := h' ρ' hp
    exact ⟨y, hq, seq h h2⟩
theorem seqQ (h : run x ρ = some (.next ρ₁)) (h' : ∃ y, Q y ∧ run m' ρ₁ = some (.ret y)) : ∃ y, Q y ∧ run (fun ρ => (x ρ).bind (thenB m')) ρ = some (.ret y) := by
  obtain ⟨y, hq, h'⟩ := h'
  exact ⟨y, hq, seq h h'⟩
theorem fnQ {ps : List String} {m : Rho → Option Out} {xs : List PyData} (hl : xs.length = ps.length) (h : ∃ y, Q y ∧ run m (rho0 ps xs) = some (.ret y)) : ∃ y, Q y ∧ fnD ps m xs = some y := by
  obtain ⟨y, hq, h⟩ := h
  exact ⟨y, hq, fn_ret hl h⟩
theorem ifO {mt : Rho → Option Bool} {a b : Rho → Option Out} (ht : tst mt ρ = some true) (h : (∃ y, Q y ∧ run a ρ = some (.ret y)) ∨ ∃ ρ', run a ρ = some (.next ρ') ∧ P ρ') : (∃ y, Q y ∧ run (fun ρ => (mt ρ).bind fun c => if c then a ρ else b ρ) ρ = some (.ret y)) ∨ ∃ ρ', run (fun ρ => (mt ρ).bind fun c => if c then a ρ else b ρ) ρ = some (.next ρ') ∧ P ρ' := by
  rcases h with ⟨y, hq, h⟩ | ⟨ρ', h, hp⟩
  · exact .inl ⟨y, hq, ifR_yes ht h⟩
  · exact .inr ⟨ρ', ifR_yes ht h, hp⟩
theorem oneO (h : (∃ y, Q y ∧ run x ρ = some (.ret y)) ∨ ∃ ρ', run x ρ = some (.next ρ') ∧ P ρ') : (∃ y, Q y ∧ run (fun ρ => (x ρ).bind (thenB fun ρ => some (.next ρ))) ρ = some (.ret y)) ∨ ∃ ρ', run (fun ρ => (x ρ).bind (thenB fun ρ => some (.next ρ))) ρ = some (.next ρ') ∧ P ρ' := by
  rcases h with ⟨y, hq, h⟩ | ⟨ρ', h, hp⟩
  · exact .inl ⟨y, hq, seqRet h⟩
  · exact .inr ⟨ρ', seq h rfl, hp⟩
theorem forO {mi : Rho → Option (List PyData × Fl)} {bind : V → Rho → Option Rho} {mb : Rho → Option Out} (xs : List PyData) (f : Fl) (hi : itr mi ρ = some (xs, f)) (hf : f ≠ .t) (h : (∃ y, Q y ∧ forD bind mb f xs ρ = some (.ret y)) ∨ ∃ ρ', forD bind mb f xs ρ = some (.next ρ') ∧ P ρ') :
    (∃ y, Q y ∧ run (fun ρ => (mi ρ).bind fun v => if v.2 = .t then none else forD bind mb v.2 v.1 ρ) ρ = some (.ret y)) ∨ ∃ ρ', run (fun ρ => (mi ρ).bind fun v => if v.2 = .t then none else forD bind mb v.2 v.1 ρ) ρ = some (.next ρ') ∧ P ρ' := by
  rcases h with ⟨y, hq, h⟩ | ⟨ρ', h, hp⟩
  · exact .inl ⟨y, hq, forR xs f hi hf h⟩
  · exact .inr ⟨ρ', forR xs f hi hf h, hp⟩
end
noncomputable def Moves : Row → Bool
  | .fork _ => false
  | .go _ => false
  | .fin => false
  | _ => true
theorem moves_ne {r : Row} (h : Moves r = true) (k : Int) : r ≠ .fork k ∧ r ≠ .go k := by
  refine ⟨?_, ?_⟩ <;> rintro rfl <;> cases h
theorem next9_ok (B : Bui hb) (D : DefAt hb "_law_next" (fnS pw 17) ["_law_cell", "_law_plots_here", "_law_names_here", "_law_state"] (fnB pw 17)) {m_row m_wr : List PyData → Option PyData}
    (h_law_row : DefG pw w hb 2 "_law_row" m_row) (e_row : ∀ (c : Int) (ps : List (List Nat × Option (List Nat))) (ns : List (List Nat)) (size : Int), 0 < ps.length → 0 < ns.length → 0 ≤ size →
      m_row [.int c, .list (ps.map plotP), .list (ns.map strP), .int size] = some (rowP (rowS c ps ns size)))
    (h_law_wrong : DefG pw w hb 3 "_law_wrong" m_wr) (e_wr : ∀ (ps : Plots) (st : Sta) (r : Row) (c : List (List Nat)), ps.length ≤ 900 → (∀ n ∈ asksOf r, HeldOk st n) → (∀ p, r = .op p → scan ps.reverse (some p) = c ∧ c.length ≤ 900) →
      m_wr [.list (ps.map plotP), staP st, rowP r] = some (strT (wrongT c st r))) :
    ∃ m, DefG pw w hb 4 "_law_next" m ∧ ∀ (c : Int) (ps : Plots) (ns : List (List Nat)) (st : Sta), 0 < ps.length → ps.length ≤ 90 → 0 < ns.length → st.opn.length ≤ 900 → (∀ n, HeldOk st n) → (∀ p ∈ ps.map (·.1), (scan ps.reverse (some p)).length ≤ 900) → (∃ p ∈ ps.map (·.1), (scan ps.reverse (some p))[1]? = none) →
      ∃ r, m [.int c, .list (ps.map plotP), .list (ns.map strP), staP st] = some (rowP r) ∧ (∃ ch, wrongT ch st r = "") ∧ (∀ p, r = .op p → p ∈ ps.map (·.1)) ∧ ∀ k, r ≠ .fork k ∧ r ≠ .go k := by
  refine ⟨_, DefG.of D (n := 3) (St.cons (S1.assign (Ev.def h_law_row (Evs.cons Ev.v (Evs.cons Ev.v (Evs.cons Ev.v (Evs.cons Ev.cint Evs.nil)))) (by decide +kernel) (by decide) (by intro _; rfl)) (by decide +kernel))
    (St.cons (S1.if (Tr.all (Trs.consAnd (Tr.cmp (Ev.idx Ev.v Ev.cint) (Ev.tuple (Evs.cons Ev.s (Evs.cons Ev.s (Evs.cons Ev.s Evs.nil))))) (Trs.consAnd (Tr.cmp (Ev.def h_law_wrong (Evs.cons Ev.v (Evs.cons Ev.v (Evs.cons Ev.v Evs.nil))) (by decide +kernel) (by decide) (by intro _; rfl)) Ev.s) Trs.nilAnd))) (St.cons (S1.ret Ev.v)
      St.nil) St.nil)
    (St.cons (S1.if (Tr.cmp (Ev.bin (Ev.len B (Evs.cons (Ev.idx Ev.v Ev.s) Evs.nil) (by decide +kernel) (by intro _; rfl)) Ev.cint) (Ev.bin (Ev.len B (Evs.cons Ev.v Evs.nil) (by decide +kernel) (by intro _; rfl)) (Ev.bin (Ev.bin Ev.v Ev.cint) Ev.cint))) (St.cons (S1.for (It.data (Ev.bin (Ev.slice Ev.v (Pt.yes (Ev.bin Ev.v (Ev.len B (Evs.cons Ev.v Evs.nil) (by decide +kernel) (by intro _; rfl)))) Pt.no Pt.no (by intro _ _; exact ⟨_, rfl⟩)) Ev.v) (by intro _ _; rfl)) (Tg.tuple (xs := ["_law_plot", "_law_outer"]) (by decide +kernel) rfl (by intro _; rfl)) (St.cons (S1.if (Tr.cmp (Ev.def h_law_wrong (Evs.cons Ev.v (Evs.cons Ev.v (Evs.cons (Ev.tuple (Evs.cons Ev.s (Evs.cons Ev.v Evs.nil))) Evs.nil))) (by decide +kernel) (by decide) (by intro _; rfl)) Ev.s) (St.cons (S1.ret (Ev.tuple (Evs.cons Ev.s (Evs.cons Ev.v Evs.nil))))
          St.nil) St.nil)
        St.nil))
      St.nil) St.nil)
    (St.cons (S1.assign (Ev.idx (Ev.idx (Ev.idx Ev.v Ev.s) (Ev.bin (Ev.bin Ev.v Ev.cint) (Ev.len B (Evs.cons (Ev.idx Ev.v Ev.s) Evs.nil) (by decide +kernel) (by intro _; rfl)))) Ev.cint) (by decide +kernel))
    (St.cons (S1.ret (Ev.tuple (Evs.cons Ev.s (Evs.cons (Ev.idx Ev.v (Ev.bin (Ev.bin Ev.v Ev.cint) (Ev.len B (Evs.cons Ev.v Evs.nil) (by decide +kernel) (by intro _; rfl)))) (Evs.cons Ev.v (Evs.cons (Ev.bin (Ev.bin (Ev.bin Ev.v Ev.cint) Ev.cint) Ev.cint) Evs.nil))))))
    St.nil))))) _ (fun _ _ h => h), ?_⟩
  intro c ps ns st hpp hpl hnn hol hh hsc hroot
  have hr := e_row c ps ns 0 hpp hnn (by decide)
  have hop : ∀ p, rowS c ps ns 0 = .op p → p ∈ ps.map (·.1) := fun p hp => row_op hpp hp
  generalize rowS c ps ns 0 = r at hr hop
  have hw : ∃ ch, m_wr [.list (ps.map plotP), staP st, rowP r] = some (strT (wrongT ch st r)) := by
    cases r with
    | op p => exact ⟨_, e_wr ps st (.op p) (scan ps.reverse (some p)) (by lia) (fun n hn => hh n) fun q hq => by cases hq; exact ⟨rfl, hsc p (hop p rfl)⟩⟩
    | _ => exact ⟨[], e_wr ps st _ [] (by lia) (fun n hn => hh n) fun q hq => by cases hq⟩
  obtain ⟨ch, hw⟩ := hw
  have htest : ((aCmp .NotIn (strT r.parts.1) (.tuple [strT "fork", strT "go", strT "end"])).bind fun b => if b = true then (if (wrongT ch st r == "") = true then some true else some false) else some false) = some (Moves r && (wrongT ch st r == "")) := by
    generalize (wrongT ch st r == "") = b
    cases r <;> cases b <;> kernel_rfl
  let Q : PyData → Prop := fun y => ∃ r, y = rowP r ∧ (∃ ch, wrongT ch st r = "") ∧ (∀ p, r = .op p → p ∈ ps.map (·.1)) ∧ ∀ k, r ≠ .fork k ∧ r ≠ .go k
  refine Exists.elim (fnQ (Q := Q) rfl ?_) fun y h => Exists.elim h.1 fun r hr => ⟨r, h.2.trans (congrArg some hr.1), hr.2⟩
  refine seqQ (by simp only [run_eq, cond_true, cond_false, e_rho_nil, e_rho, e_fint, e_flist, e_rv, e_putd, String.reduceBEq, Option.bind_eq_bind, Option.bind_some, Option.map_some, List.map_cons, List.map_nil, hr]; rfl) ?_
  refine seqO (fun ρ => ρ "_law_state" = some (.val ⟨staP st, .s⟩) ∧ ρ "_law_cell" = some (.val ⟨.int c, .d⟩) ∧ ρ "_law_names_here" = some (.val ⟨.list (ns.map strP), .s⟩) ∧ ρ "_law_plots_here" = some (.val ⟨.list (ps.map plotP), .s⟩)) ?_ ?_
  · by_cases hgood : (Moves r && (wrongT ch st r == "")) = true
    · refine .inl ⟨rowP r, ⟨r, rfl, ⟨ch, ?_⟩, hop, moves_ne (Bool.and_eq_true _ _ ▸ hgood).1⟩, ifR_yes ?_ (seqRet ?_)⟩
      · rw [Bool.and_eq_true] at hgood
        exact eq_of_beq hgood.2
      · simp only [tst_eq, e_set, cond_true, cond_false, e_rho_nil, e_rho, e_fint, e_flist, e_rv, e_eqs, fix_d, ofS_beq, String.reduceBEq, le_line, fls_nil, fls_d, Option.bind_eq_bind, Option.bind_some, Option.map_some, if_true, List.map_cons, List.map_nil, List.length_cons, List.length_nil, Nat.reduceAdd, Nat.reduceLeDiff, fix_sta, row_zero, hw]
        exact htest.trans (congrArg some hgood)
      · simp only [run_eq, e_set, cond_true, cond_false, e_rho_nil, e_rho, e_fint, e_flist, e_rv, e_ret, String.reduceBEq, Option.bind_some]
    · rw [Bool.not_eq_true] at hgood
      refine .inr ⟨_, ifR_no ?_ rfl, ?_⟩
      · simp only [tst_eq, e_set, cond_true, cond_false, e_rho_nil, e_rho, e_fint, e_flist, e_rv, e_eqs, fix_d, ofS_beq, String.reduceBEq, le_line, fls_nil, fls_d, Option.bind_eq_bind, Option.bind_some, Option.map_some, if_true, List.map_cons, List.map_nil, List.length_cons, List.length_nil, Nat.reduceAdd, Nat.reduceLeDiff, fix_sta, row_zero, hw]
        exact htest.trans (congrArg some hgood)
      · exact ⟨by simp only [e_set, cond_true, cond_false, e_rho_nil, e_rho, e_fint, e_flist, String.reduceBEq, fix_sta], by simp only [e_set, cond_true, cond_false, e_rho_nil, e_rho, e_fint, e_flist, String.reduceBEq], by simp only [e_set, cond_true, cond_false, e_rho_nil, e_rho, e_fint, e_flist, String.reduceBEq], by simp only [e_set, cond_true, cond_false, e_rho_nil, e_rho, e_fint, e_flist, String.reduceBEq]⟩
  clear htest hw hr hop
  rintro ρ ⟨f1, f2, f3, f4⟩
  refine seqO (fun ρ => (ρ "_law_state" = some (.val ⟨staP st, .s⟩) ∧ ρ "_law_cell" = some (.val ⟨.int c, .d⟩) ∧ ρ "_law_names_here" = some (.val ⟨.list (ns.map strP), .s⟩)) ∧ 0 < st.opn.length) ?_ ?_
  · by_cases hlen : (st.opn.length : Int) * 2 < ps.length + c / 10 % 2
    · refine ifO ?_ (oneO ?_)
      · simp only [tst_eq, e_add, e_mul_r, e_div, e_mod, e_flist, e_rv, e_lt, e_len_l, Option.bind_eq_bind, Option.bind_some, Option.map_some, Int.reduceLT, Int.reduceNeg, f1, f2, f4, st_open, List.length_map, decide_eq_true hlen]
      · have hmem : ∀ x ∈ (ps.drop (clipLo (some (c % ps.length)) ps.length) ++ ps).map plotP, ∃ p o, x = plotP (p, o) ∧ p ∈ ps.map (·.1) := by
          intro x hx
          obtain ⟨q, hq, rfl⟩ := List.mem_map.mp hx
          refine ⟨q.1, q.2, rfl, List.mem_map.mpr ⟨q, ?_, rfl⟩⟩
          rcases List.mem_append.mp hq with hq | hq
          · exact List.mem_of_mem_drop hq
          · exact hq
        have hadd : ((ps.drop (clipLo (some (c % ps.length)) ps.length)).map plotP).length + (ps.map plotP).length ≤ sizeLine := le_line (by simp; lia)
        refine forO ((ps.drop (clipLo (some (c % ps.length)) ps.length) ++ ps).map plotP) .d ?_ (by decide) ?_
        · simp only [itr_eq, e_rv, e_len_l, e_sll, hi_none, Option.bind_eq_bind, Option.bind_some, Option.map_some, f2, f4, List.length_map, e_mod (show 0 < (ps.length : Int) by lia)]
          rw [List.take_of_length_le (by simp), ← List.map_drop, newL_plots]
          simp only [Option.bind_some, e_addl hadd, ← List.map_append, newL_plots]
          rfl
        · refine Or.elim (forD_seek (fun ρ => ρ "_law_state" = some (.val ⟨staP st, .s⟩) ∧ ρ "_law_cell" = some (.val ⟨.int c, .d⟩) ∧ ρ "_law_names_here" = some (.val ⟨.list (ns.map strP), .s⟩) ∧ ρ "_law_plots_here" = some (.val ⟨.list (ps.map plotP), .s⟩)) Q (fun x => ∃ p o, x = plotP (p, o) ∧ wrongT (scan ps.reverse (some p)) st (.op p) = "") ⟨f1, f2, f3, f4⟩ ?_) (fun h => .inl h) ?_
          rotate_left
          · rintro ⟨hno, ρ', hr, k1, k2, k3, _⟩
            refine .inr ⟨ρ', hr, ⟨k1, k2, k3⟩, ?_⟩
            obtain ⟨p, hp, hp1⟩ := hroot
            obtain ⟨q, hq, rfl⟩ := List.mem_map.mp hp
            refine Nat.pos_of_ne_zero fun hz => ?_
            have hz : st.opn = [] := List.eq_nil_of_length_eq_zero hz
            refine hno (plotP q) (List.mem_map.mpr ⟨q, List.mem_append_right _ hq, rfl⟩) ⟨q.1, q.2, rfl, ?_⟩
            have hu : q.1 ∉ upOf st := by unfold upOf; rw [hz]; exact List.not_mem_nil
            have e : wrongT (scan ps.reverse (some q.1)) st (.op q.1) = match (scan ps.reverse (some q.1))[1]? with | some q => if q ∈ upOf st then "" else "not open" | none => "" := if_neg hu
            rw [e, hp1]
          · rintro x hx ρ ⟨k1, k2, k3, k4⟩
            obtain ⟨p, o, rfl, hp⟩ := hmem x hx
            have hwr := e_wr ps st (.op p) (scan ps.reverse (some p)) (by lia) (fun n hn => hh n) fun q hq => by cases hq; exact ⟨rfl, hsc p hp⟩
            rw [show rowP (.op p) = .tuple [strT "open", strP p] from rfl] at hwr
            refine ⟨_, by simp only [e_putRd, e_tup, e_putn, e_putc, fix_d, Option.bind_some, List.map_cons, List.map_nil, plotP]; rfl, ?_⟩
            by_cases hgo : wrongT (scan ps.reverse (some p)) st (.op p) = ""
            · rw [hgo] at hwr
              exact .inl ⟨rowP (.op p), ⟨_, rfl, ⟨_, hgo⟩, fun q hq => by cases hq; exact hp, fun k => ⟨nofun, nofun⟩⟩, seqRet (ifR_yes (by simp only [tst_eq, e_set, cond_true, cond_false, e_rv, e_eqs, fix_d, ofS_beq, String.reduceBEq, le_line, fls_nil, fls_d, Option.bind_eq_bind, Option.bind_some, Option.map_some, if_true, List.map_cons, List.map_nil, List.length_cons, List.length_nil, Nat.reduceAdd, Nat.reduceLeDiff, k1, k4, hwr]) (seqRet (by simp only [run_eq, e_set, cond_true, cond_false, e_rv, e_ret, fix_d, String.reduceBEq, le_line, fls_nil, fls_d, Option.bind_eq_bind, Option.bind_some, if_true, List.map_cons, List.map_nil, List.length_cons, List.length_nil, Nat.reduceAdd, Nat.reduceLeDiff]; rfl)))⟩
            · refine .inr ⟨?_, ?_⟩
              · rintro ⟨p', o', e, h⟩
                have : p = p' := by
                  have := congrArg (fun x => match x with | PyData.tuple (.str s :: _) => s | _ => S []) e
                  exact S_inj this
                subst this
                exact hgo h
              · have hgo' : (wrongT (scan ps.reverse (some p)) st (.op p) == "") = false := beq_eq_false_iff_ne.mpr hgo
                refine ⟨_, seq (ifR_no (by simp only [tst_eq, e_set, cond_true, cond_false, e_rv, e_eqs, fix_d, ofS_beq, String.reduceBEq, le_line, fls_nil, fls_d, Option.bind_eq_bind, Option.bind_some, Option.map_some, if_true, List.map_cons, List.map_nil, List.length_cons, List.length_nil, Nat.reduceAdd, Nat.reduceLeDiff, k1, k4, hwr, hgo']) rfl) rfl, ?_⟩
                exact ⟨by simp only [e_set, cond_false, String.reduceBEq, k1], by simp only [e_set, cond_false, String.reduceBEq, k2], by simp only [e_set, cond_false, String.reduceBEq, k3], by simp only [e_set, cond_false, String.reduceBEq, k4]⟩
    · refine .inr ⟨ρ, ifR_no ?_ rfl, ⟨f1, f2, f3⟩, by lia⟩
      simp only [tst_eq, e_add, e_mul_r, e_div, e_mod, e_flist, e_rv, e_lt, e_len_l, Option.bind_eq_bind, Option.bind_some, Option.map_some, Int.reduceLT, Int.reduceNeg, f1, f2, f4, st_open, List.length_map, decide_eq_false hlen]
  · clear f1 f2 f3 f4
    rintro ρ ⟨⟨f1, f2, f3⟩, ho⟩
    have h1 := Int.emod_nonneg (c / 10) (show (st.opn.length : Int) ≠ 0 by lia)
    have h2 := Int.emod_lt_of_pos (c / 10) (show 0 < (st.opn.length : Int) by lia)
    have hlt : (c / 10 % st.opn.length).toNat < st.opn.length := by lia
    have hg : seqAt (st.opn.map pairP) (c / 10 % st.opn.length) = some (pairP st.opn[(c / 10 % st.opn.length).toNat]) := by
      rw [seqAt_nat h1, List.getElem?_map, List.getElem?_eq_getElem hlt]; rfl
    have hm := List.getElem_mem hlt
    generalize st.opn[(c / 10 % st.opn.length).toNat] = q at hg hm
    have hpk := pickN_at hnn (c / 70)
    refine seqQ (run_put (strP q.1) ?_) ?_
    · simp only [evl_eq, e_div, e_flist, e_rv, e_len_l, e_idx_l, Option.bind_eq_bind, Option.bind_some, Option.map_some, Int.reduceLT, f1, f2, st_open, List.length_map, e_mod (show 0 < (st.opn.length : Int) by lia), hg]
      rfl
    refine ⟨rowP (.lay (pickN ns (c / 70)) q.1 (c / 10 % 19 - 9)), ⟨_, rfl, ⟨[], if_pos (List.mem_map.mpr ⟨q, hm, rfl⟩)⟩, fun p h => (nomatch h), fun k => ⟨nofun, nofun⟩⟩, seqRet ?_⟩
    simp only [run_eq, e_sub, e_div, e_mod, e_set, cond_true, cond_false, e_fstr, e_rv, e_ret, e_len_l, fix_d, String.reduceBEq, e_idx_l, le_line, fls_nil, fls_d, Option.bind_eq_bind, Option.bind_some, Option.map_some, if_true, List.map_cons, List.map_nil, List.length_cons, List.length_nil, Int.reduceLT, Nat.reduceAdd, Nat.reduceLeDiff, f2, f3, List.length_map, e_mod (show 0 < (ns.length : Int) by lia), hpk]
    rfl
end

section
structure Inv5 (ps : Plots) (k : Nat) (st : Sta) : Prop where
  inv : Inv9 ps st
  hn : (st.held.map (·.1)).Nodup
  asc : (st.opn.map (·.2)).Pairwise (· < ·)
  held : st.held.length ≤ k
  worth : st.worth.length ≤ k
  told : st.told.length ≤ k
  gv : st.given.length + st.opn.length ≤ k
theorem Inv5.mono {ps : Plots} {k k' : Nat} {st : Sta} (h : Inv5 ps k st) (hk : k ≤ k') : Inv5 ps k' st := ⟨h.inv, h.hn, h.asc, Nat.le_trans h.held hk, Nat.le_trans h.worth hk, Nat.le_trans h.told hk, Nat.le_trans h.gv hk⟩
theorem inv5_0 (ps : Plots) : Inv5 ps 0 sta0 := ⟨inv0 ps, List.nodup_nil, List.Pairwise.nil, Nat.le_refl _, Nat.le_refl _, Nat.le_refl _, Nat.le_refl _⟩
theorem putF_keys {n : List Nat} {i : Int} : ∀ h : List (List Nat × Int), (putF n i h).map (·.1) = h.map (·.1)
  | [] => rfl
  | p :: h => by
    unfold putF
    split
    · rfl
    · rw [List.map_cons, List.map_cons, putF_keys h]
theorem lookup_none {n : List Nat} : ∀ {h : List (List Nat × Int)}, h.lookup n = none → n ∉ h.map (·.1)
  | [], _ => by simp
  | p :: h, e => by
    rw [List.lookup_cons] at e
    split at e
    · cases e
    · rename_i q
      rw [List.map_cons, List.mem_cons, not_or]
      exact ⟨beq_eq_false_iff_ne.mp q, lookup_none e⟩
theorem setH_nodup {n : List Nat} {i : Int} {h : List (List Nat × Int)} (hn : (h.map (·.1)).Nodup) : ((setH h n i).map (·.1)).Nodup := by
  unfold setH
  cases e : h.lookup n with
  | some j => rw [if_pos (by simp), putF_keys]; exact hn
  | none =>
    rw [if_neg (by simp), List.map_append, List.nodup_append]
    refine ⟨hn, by simp, fun a ha b hb q => lookup_none e ?_⟩
    have hb : b = n := by simpa using hb
    rw [← hb, ← q]; exact ha
theorem gone_split (ps : Plots) (st : Sta) (p : List Nat) : (st.opn.filter fun q => q ∉ goneOf ps st p) = st.opn.filter fun q => !decide (p ∈ scan ps.reverse (some q.1)) := by
  refine List.filter_congr fun q hq => ?_
  by_cases h : p ∈ scan ps.reverse (some q.1)
  · have : q ∈ goneOf ps st p := List.mem_filter.mpr ⟨hq, by simpa using h⟩
    simp [this, h]
  · have : q ∉ goneOf ps st p := fun z => h (by simpa using (List.mem_filter.mp z).2)
    simp [this, h]
theorem two_parts {α : Type} (f : α → Bool) : ∀ l : List α, (l.filter f).length + (l.filter fun a => !f a).length = l.length
  | [] => rfl
  | a :: l => by
    have := two_parts f l
    rw [List.filter_cons, List.filter_cons]
    cases f a <;> simp <;> lia
theorem inv5_deed {ps : Plots} {k : Nat} {st : Sta} {r : Row} (hi : Inv5 ps k st) (hn : Needs st r) (hop : ∀ p, r = .op p → p ∈ ps.map (·.1) ∧ p ∉ upOf st) : Inv5 ps (k + 1) (deedT ps st r) := by
  have h9 := inv_deed hi.inv hn hop
  have h' := hi.mono (Nat.le_succ k)
  cases r with
  | op p =>
    refine ⟨h9, hi.hn, ?_, h'.held, h'.worth, h'.told, ?_⟩
    · show ((st.opn ++ [(p, st.many)]).map (·.2)).Pairwise (· < ·)
      rw [List.map_append, List.pairwise_append]
      refine ⟨hi.asc, by simp, fun a ha b hb => ?_⟩
      obtain ⟨q, hq, rfl⟩ := List.mem_map.mp ha
      have hb : b = st.many := by simpa using hb
      rw [hb]; exact hi.inv.low q hq
    · show st.given.length + (st.opn ++ [(p, st.many)]).length ≤ k + 1
      rw [List.length_append, List.length_singleton]
      exact Nat.succ_le_succ hi.gv
  | lay n p i => exact ⟨h9, setH_nodup hi.hn, hi.asc, Nat.le_trans (setH_len _) (Nat.succ_le_succ hi.held), by show (st.worth ++ [_]).length ≤ k + 1; rw [List.length_append]; exact Nat.succ_le_succ hi.worth, h'.told, h'.gv⟩
  | copy n o p => exact ⟨h9, setH_nodup hi.hn, hi.asc, Nat.le_trans (setH_len _) (Nat.succ_le_succ hi.held), by show (st.worth ++ [_]).length ≤ k + 1; rw [List.length_append]; exact Nat.succ_le_succ hi.worth, h'.told, h'.gv⟩
  | same n o => exact ⟨h9, setH_nodup hi.hn, hi.asc, Nat.le_trans (setH_len _) (Nat.succ_le_succ hi.held), h'.worth, h'.told, h'.gv⟩
  | add n o => exact ⟨h9, hi.hn, hi.asc, h'.held, by show (st.worth.set _ _).length ≤ k + 1; rw [List.length_set]; exact h'.worth, h'.told, h'.gv⟩
  | tell n => exact ⟨h9, hi.hn, hi.asc, h'.held, h'.worth, by show (st.told ++ [_]).length ≤ k + 1; rw [List.length_append]; exact Nat.succ_le_succ hi.told, h'.gv⟩
  | give p =>
    have hs : (deedT ps st (.give p)).opn.Sublist st.opn := List.filter_sublist
    refine ⟨h9, hi.hn, hi.asc.sublist (hs.map _), h'.held, h'.worth, h'.told, ?_⟩
    show (st.given ++ ((goneOf ps st p).map (·.2)).reverse).length + (st.opn.filter fun q => q ∉ goneOf ps st p).length ≤ k + 1
    rw [gone_split, List.length_append, List.length_reverse, List.length_map, Nat.add_assoc]
    have := two_parts (fun q : List Nat × Int => decide (p ∈ scan ps.reverse (some q.1))) st.opn
    rw [show goneOf ps st p = st.opn.filter fun q => decide (p ∈ scan ps.reverse (some q.1)) from rfl, this]
    exact h'.gv
  | fork k => exact h'
  | go k => exact h'
  | fin => exact h'
theorem Inv5.good {ps : Plots} {k : Nat} {st : Sta} (h : Inv5 ps k st) (hk : k ≤ 900) : Good5 st ∧ Room9 st := by
  have h1 : st.opn.length ≤ 900 := Nat.le_trans (Nat.le_trans (Nat.le_add_left _ _) h.gv) hk
  exact ⟨⟨h.inv.upn, h.hn, h1, Nat.le_trans h.held hk, Nat.le_trans h.worth hk, Nat.le_trans h.told hk⟩, ⟨h1, Nat.le_trans h.held hk, Nat.le_trans h.worth hk, Nat.le_trans h.told hk, Nat.le_trans h.gv hk⟩⟩
theorem give_same {ps : Plots} {k : Nat} {st : Sta} (h : Inv5 ps k st) (p : List Nat) : ({ stF5 st with standing := stdP (st.opn.filter fun q => !decide (p ∈ scan ps.reverse (some q.1))), given := .list ((st.given ++ (sortI ((st.opn.filter fun q => decide (p ∈ scan ps.reverse (some q.1))).map (·.2))).reverse).map .int) } : StF) = stF5 (deedT ps st (.give p)) := by
  have e : sortI ((st.opn.filter fun q => decide (p ∈ scan ps.reverse (some q.1))).map (·.2)) = (st.opn.filter fun q => decide (p ∈ scan ps.reverse (some q.1))).map (·.2) :=
    sorted_uniq (sortI_perm _) (sortI_sorted _) ((h.asc.sublist ((List.filter_sublist).map _)).imp fun h => Int.le_of_lt h)
  rw [e, ← gone_split]; rfl
end

section
variable {w : World} {hb : Heap}
theorem fresh5 (B : Bui hb) (D : DefAt hb "_law_fresh" (fnS pw 13) [] (fnB pw 13)) : DefT pw w hb 2 "_law_fresh" (staP sta0) := DefT.of (n := 1) D (EvT.dict (PrT.cons EvT.nil (PrT.cons EvT.emp (PrT.cons EvT.nil (PrT.cons EvT.nil (PrT.cons EvT.nil (PrT.cons (EvT.flat Ev.cint) PrT.nil (by decide +kernel)) (by decide +kernel)) (by decide +kernel)) (by decide +kernel)) (by decide +kernel)) (by decide +kernel)) (by rfl) (by rfl) (by intro h; cases h) (by decide)) (by kernel_rfl)
theorem run_callM {x : String} {m1 m3 : Rho → Option V} {m : List PyData → Option PyData} {ρ : Rho} {ro : Option Addr} {d d' : PyData} {v1 v3 : V} (h1 : ρ x = some (.own (.tree ro d))) (h2 : evl m1 ρ = some v1) (h3 : evl m3 ρ = some v3) (hv : v1.fl ≠ .t) (hf : flat v3.x = true) (hm : m [v1.x, d, v3.x] = some d') (hn : isNode d' = true) :
    run (mCall x m1 m3 m) ρ = some (.next (ρ.set x (.own (.tree ro d')))) := by
  dsimp only [run, mCall]
  rw [show treeOf ρ x = some (ro, d) by unfold treeOf; rw [h1], Option.bind_some, show m1 ρ = _ from h2, Option.bind_some, show m3 ρ = _ from h3, Option.bind_some, if_pos ⟨hv, hf⟩, hm, Option.bind_some, if_pos hn]; rfl
theorem flat_row (r : Row) : flat (rowP r) = true := by cases r <;> rfl
noncomputable def InitV (hb : Heap) (V : Addr) : Prop := (∃ mC f fo fd r, Cls valNames hb V mC ∧ mC (Str.ofString "__init__") = some (.ref f) ∧ hb.get? f = some fo ∧ fo.cls = .type "function" ∧ fo.data = .func fd ∧ typeLookup (.type "object") (Str.ofString "__init__") = pure r ∧ DefOk hb f (mthS pw 3 0) ["self", "amount", "opening"] (mthB pw 3 0))
theorem InitV.up {hb' : Heap} {V : Addr} (g : Grow hb hb') (D : InitV hb V) : InitV hb' V := by
  obtain ⟨mC, f, fo, fd, r, h1, h2, h3, h4, h5, h6, h7⟩ := D
  exact ⟨mC, f, fo, fd, r, h1.up g, h2, g _ _ h3, h4, h5, h6, h7.up g⟩
theorem nodup_le : ∀ {l m : List (List Nat)}, l.Nodup → (∀ a ∈ l, a ∈ m) → l.length ≤ m.length
  | [], _, _, _ => Nat.zero_le _
  | a :: l, m, hn, hs => by
    rw [List.nodup_cons] at hn
    have ha := hs a (.head _)
    have := nodup_le (m := m.erase a) hn.2 fun b hb => (List.mem_erase_of_ne (show b ≠ a from fun e => hn.1 (by rw [← e]; exact hb))).mpr (hs b (.tail _ hb))
    rw [List.length_erase_of_mem ha] at this
    have h0 := List.length_pos_of_mem ha
    rw [List.length_cons]; omega
theorem one_ok {C V p : Addr} {ps : Plots} {k : Nat} {st : Sta} {r : Row} {m_wr m_deed m_o m_w : List PyData → Option PyData} {m_g m_do : List PyData → Option (PyData × PyData)} (hi : Inv5 ps k st) (hk : k ≤ 800) (hps : ps.length ≤ 60)
    (hout : ∀ q ∈ ps.map (·.1), m_o [.list (ps.map plotP), strP q] = some (.list ((scan ps.reverse (some q)).map strP)) ∧ scan ps.reverse (some q) ≠ [] ∧ (scan ps.reverse (some q)).length ≤ 90)
    (e_wr : ∀ (ps : Plots) (st : Sta) (r : Row) (c : List (List Nat)), ps.length ≤ 900 → (∀ n ∈ asksOf r, HeldOk st n) → (∀ p, r = .op p → scan ps.reverse (some p) = c ∧ c.length ≤ 900) → m_wr [.list (ps.map plotP), staP st, rowP r] = some (strT (wrongT c st r)))
    (e_deed : ∀ (ps : Plots) (st : Sta) (r : Row), ps.length ≤ 900 → Room9 st → Needs st r → m_deed [.list (ps.map plotP), staP st, rowP r] = some (staP (deedT ps st r)))
    (e_w : ∀ (st : Sta) (r : Row) (c : List (List Nat)), (∀ k, r ≠ .fork k ∧ r ≠ .go k) → (∀ n ∈ asksOf r, HeldOk st n) → (∀ pl, r = .op pl → c ≠ [] ∧ c.length ≤ 900 ∧ m_o [.list (ps.map plotP), strP pl] = some (.list (c.map strP))) → m_w [storeD C V p (stF5 st), rowP r] = some (strT (wrongT c st r)))
    (e_g : ∀ (up : List (List Nat × Int)) (pl : List Nat) (f : StF) (gs : List Int) (sc : List Nat → List (List Nat)), f.standing = stdP up → f.given = .list (gs.map .int) → (up.map (·.1)).Nodup → up.length < 64 → gs.length ≤ 800 → (∀ q ∈ up.map (·.1), m_o [.list (ps.map plotP), strP q] = some (.list ((sc q).map strP))) →
      m_g [storeD C V p f, strP pl] = some (.none, storeD C V p { f with standing := stdP (up.filter fun q => !decide (pl ∈ sc q.1)), given := .list ((gs ++ (sortI ((up.filter fun q => decide (pl ∈ sc q.1)).map (·.2))).reverse).map .int) }))
    (e_do : ∀ (ps : Plots) (st : Sta) (r : Row) (word : String), m_w [storeD C V p (stF5 st), rowP r] = some (strT word) → (word ≠ "" → m_do [storeD C V p (stF5 st), rowP r] = some (strT word, storeD C V p (stF5 st))) ∧
      (word = "" → Good5 st → Needs st r → (∀ pl, r = .op pl → pl ∉ upOf st) → (∀ pl, r = .give pl → m_g [storeD C V p (stF5 st), strP pl] = some (.none, storeD C V p (stF5 (deedT ps st r)))) → (∀ k, r ≠ .fork k ∧ r ≠ .go k) → m_do [storeD C V p (stF5 st), rowP r] = some (strT "", storeD C V p (stF5 (deedT ps st r)))))
    (hop : ∀ p, r = .op p → p ∈ ps.map (·.1)) (hfg : ∀ k, r ≠ .fork k ∧ r ≠ .go k) :
    ∃ due st', m_wr [.list (ps.map plotP), staP st, rowP r] = some (strT due) ∧ (due = "" → m_deed [.list (ps.map plotP), staP st, rowP r] = some (staP st')) ∧ (due ≠ "" ∨ r = .fin → st' = st) ∧ m_do [storeD C V p (stF5 st), rowP r] = some (strT due, storeD C V p (stF5 st')) ∧ Inv5 ps (k + 1) st' := by
  obtain ⟨c, hc⟩ : ∃ c, ∀ p, r = .op p → scan ps.reverse (some p) = c ∧ c.length ≤ 900 ∧ c ≠ [] ∧ m_o [.list (ps.map plotP), strP p] = some (.list (c.map strP)) := by
    cases r with
    | op p =>
      obtain ⟨h1, h2, h3⟩ := hout p (hop p rfl)
      exact ⟨_, fun q hq => by cases hq; exact ⟨rfl, Nat.le_trans h3 (by decide), h2, h1⟩⟩
    | _ => exact ⟨[], fun p h => nomatch h⟩
  have h1 := e_wr ps st r c (Nat.le_trans hps (by decide)) (fun n _ => hi.inv.held n) fun p hp => ⟨(hc p hp).1, (hc p hp).2.1⟩
  have h2 := e_w st r c hfg (fun n _ => hi.inv.held n) fun p hp => ⟨(hc p hp).2.2.1, (hc p hp).2.1, (hc p hp).2.2.2⟩
  obtain ⟨d1, d2⟩ := e_do ps st r _ h2
  by_cases he : wrongT c st r = ""
  · obtain ⟨hn, hnop⟩ := needs_of hi.inv he
    obtain ⟨G, Rm⟩ := hi.good (Nat.le_trans hk (by decide))
    have hul : st.opn.length ≤ ps.length := by
      have := nodup_le hi.inv.upn hi.inv.up
      unfold upOf at this
      rwa [List.length_map, List.length_map] at this
    have hgl : st.given.length ≤ 800 := Nat.le_trans (Nat.le_trans (Nat.le_add_right _ _) hi.gv) hk
    rw [he] at h1
    refine ⟨"", deedT ps st r, h1, fun _ => e_deed ps st r (Nat.le_trans hps (by decide)) Rm hn, fun h => ?_, d2 he G hn hnop (fun pl hpl => ?_) hfg, inv5_deed hi hn fun p hp => ⟨hop p hp, hnop p hp⟩⟩
    · rcases h with h | rfl
      · exact absurd rfl h
      · rfl
    · subst hpl
      have := e_g st.opn pl (stF5 st) st.given (fun q => scan ps.reverse (some q)) rfl rfl hi.inv.upn (Nat.lt_of_le_of_lt (Nat.le_trans hul hps) (by decide)) hgl fun q hq => (hout q (hi.inv.up q hq)).1
      rw [this, give_same hi]
  · exact ⟨_, st, h1, fun h => absurd h he, fun _ => rfl, d1 he, hi.mono (Nat.le_succ k)⟩
theorem e_listOf {xs : List PyData} : listOfD (.list xs) = some xs := rfl
theorem fm_none' {α β : Type} : ∀ xs : List α, xs.filterMap (fun _ => (none : Option β)) = []
  | [] => rfl
  | x :: xs => by rw [List.filterMap_cons]; exact fm_none' xs
structure K5 (C V p : Addr) (ps : Plots) (ns : List (List Nat)) (st : Sta) (ρ : Rho) : Prop where
  store : ρ "_law_store" = some (.own (.tree none (storeD C V p (stF5 st))))
  state : ρ "_law_state" = some (.own (.tree none (staP st)))
  plots : ρ "_law_plots_here" = some (.val ⟨.list (ps.map plotP), .d⟩)
  names : ρ "_law_names_here" = some (.val ⟨.list (ns.map strP), .d⟩)
noncomputable def isFG : Row → Bool
  | .fork _ => true
  | .go _ => true
  | _ => false
theorem plain_list_ints (l : List Int) : plain 60 (.list (intsP l)) := plain_mono (plain_map plain_int l) (by decide)
theorem fg_ne {r : Row} (h : isFG r = false) (k : Int) : r ≠ .fork k ∧ r ≠ .go k := by
  refine ⟨?_, ?_⟩ <;> rintro rfl <;> cases h
theorem fg_in (r : Row) : aCmp .In (.str (Str.ofString r.parts.1)) (.tuple [.str (Str.ofString "fork"), .str (Str.ofString "go")]) = some (isFG r) := by
  cases r <;> kernel_rfl
theorem law_ok (B : Bui hb) (R : Base pw [] hb hb) (HS : GName hb "sorted" (.builtin "sorted")) (HE : GName hb "enumerate" (.type "enumerate")) {C V : Addr} {mC mV : Str → Option Value} (KC : Cls storeNames hb C mC) (KV : Cls valNames hb V mV) (hgS : GName hb "Store" (.ref C)) (hgV : GName hb "Value" (.ref V))
    (DI : MethAt hb C "__init__" (mthS pw 4 0) ["self", "plots"] (mthB pw 4 0)) (DN : MethAt hb C "is_gone" (mthS pw 4 1) ["self", "value"] (mthB pw 4 1)) (DL : MethAt hb C "lacking" (mthS pw 4 2) ["self", "name"] (mthB pw 4 2)) (DW : MethAt hb C "wrong" (mthS pw 4 3) ["self", "row"] (mthB pw 4 3)) (DG : MethAt hb C "give" (mthS pw 4 4) ["self", "plot"] (mthB pw 4 4)) (DD : MethAt hb C "do" (mthS pw 4 5) ["self", "row"] (mthB pw 4 5)) (DV : InitV hb V) (D : DefAt hb "law" (fnS pw 18) ["_law_script"] (fnB pw 18))
    {m_plots m_names m_row m_deed m_next m_wr m_o m_wh : List PyData → Option PyData} (h_law_plots : DefG pw w hb 3 "_law_plots" m_plots) (e_plots : ∀ l : List Int, m_plots [.list (intsP l)] = some (.list ((plotsS l).map plotP)))
    (h_law_names : DefG pw w hb 3 "_law_names" m_names) (e_names : ∀ (l : List Int) (ps : List (List Nat × Option (List Nat))), m_names [.list (intsP l), .list (ps.map plotP)] = some (.list ((namesS l ps).map strP)))
    (h_law_row : DefG pw w hb 2 "_law_row" m_row) (e_row : ∀ (c : Int) (ps : List (List Nat × Option (List Nat))) (ns : List (List Nat)) (size : Int), 0 < ps.length → 0 < ns.length → 0 ≤ size →
      m_row [.int c, .list (ps.map plotP), .list (ns.map strP), .int size] = some (rowP (rowS c ps ns size)))
    (h_law_fresh : DefT pw w hb 2 "_law_fresh" (staP sta0))
    (h_law_deed : DefM pw w hb 3 "_law_deed" ["_law_plots_here", "_law_state", "_law_row_here"] "_law_state" m_deed) (e_deed : ∀ (ps : Plots) (st : Sta) (r : Row), ps.length ≤ 900 → Room9 st → Needs st r → m_deed [.list (ps.map plotP), staP st, rowP r] = some (staP (deedT ps st r)))
    (h_law_next : DefG pw w hb 4 "_law_next" m_next) (e_next : ∀ (c : Int) (ps : Plots) (ns : List (List Nat)) (st : Sta), 0 < ps.length → ps.length ≤ 90 → 0 < ns.length → st.opn.length ≤ 900 → (∀ n, HeldOk st n) → (∀ p ∈ ps.map (·.1), (scan ps.reverse (some p)).length ≤ 900) → (∃ p ∈ ps.map (·.1), (scan ps.reverse (some p))[1]? = none) →
      ∃ r, m_next [.int c, .list (ps.map plotP), .list (ns.map strP), staP st] = some (rowP r) ∧ (∃ ch, wrongT ch st r = "") ∧ (∀ p, r = .op p → p ∈ ps.map (·.1)) ∧ ∀ k, r ≠ .fork k ∧ r ≠ .go k)
    (h_law_wrong : DefG pw w hb 3 "_law_wrong" m_wr) (e_wr : ∀ (ps : Plots) (st : Sta) (r : Row) (c : List (List Nat)), ps.length ≤ 900 → (∀ n ∈ asksOf r, HeldOk st n) → (∀ p, r = .op p → scan ps.reverse (some p) = c ∧ c.length ≤ 900) →
      m_wr [.list (ps.map plotP), staP st, rowP r] = some (strT (wrongT c st r)))
    (h_outward : DefG pw w hb 2 "outward" m_o) (e_o : ∀ (ps : Plots) (c : List (List Nat)) (n : List Nat), (ps.map (·.1)).Nodup → ps.length ≤ 900 → Chain ps c → c[0]? = some n → c.length ≤ 90 → m_o [.list (ps.map plotP), strP n] = some (.list (c.map strP)))
    (h_law_whole : DefG pw w hb 2 "_law_whole" m_wh) (e_wh : ∀ i : Int, m_wh [.int i] = some (.bool true)) :
    ∃ m, DefG pw w hb 8 "law" m ∧ ∀ l : List Int, l.length ≤ 63 → m [.list (intsP l)] = some (.bool true) := by
  refine ⟨_, DefG.of D (n := 7) (St.cons (S1.assign (Ev.def h_law_plots (Evs.cons Ev.v Evs.nil) (by decide +kernel) (by decide) (by intro _; rfl)) (by decide +kernel))
    (St.cons (S1.assign (Ev.def h_law_names (Evs.cons Ev.v (Evs.cons Ev.v Evs.nil)) (by decide +kernel) (by decide) (by intro _; rfl)) (by decide +kernel))
    (St.newStore (Va := V) (.bool true) R (init4_ok KC DI) hgS (Ev.listOf B (Evs.cons Ev.v Evs.nil) (by decide +kernel) (by intro _; rfl)) (by decide) (by decide +kernel) (by decide +kernel) (by intro _; rfl) (by intro _ _; rfl)))) _ (fun _ _ h => h), ?_⟩
  intro l hll
  have hpl := e_plots l
  have hnm := e_names l (plotsS l)
  have hlen := plots_len l
  have hmany := many_le l
  have hnpos := names_pos l
  have hpp : 0 < (plotsS l).length := by lia
  have hp60 : (plotsS l).length ≤ 60 := by lia
  have hpnd := plots_nodup l
  refine fn_ret rfl ?_
  refine seq (by simp only [run_eq, cond_true, e_rho_nil, e_rho, e_flist, e_rv, e_putd, String.reduceBEq, Option.bind_eq_bind, Option.bind_some, Option.map_some, List.map_cons, List.map_nil, hpl]; rfl) ?_
  refine seq (by simp only [run_eq, e_set, cond_true, cond_false, e_rho_nil, e_rho, e_flist, e_rv, e_putd, String.reduceBEq, Option.bind_eq_bind, Option.bind_some, Option.map_some, List.map_cons, List.map_nil, hnm]; rfl) ?_
  refine mNew_run (ps := (plotsS l).map plotP) (fl := .d) (by simp only [e_set, cond_true, cond_false, e_rho_nil, e_rho, e_flist, e_rv, String.reduceBEq, newL_d, Option.bind_eq_bind, Option.bind_some]) (by decide) (flats_plots _) ?_
  intro hb' p g R' HL
  replace B := B.up g
  replace HS := HS.up g
  replace HE := HE.up g
  replace KC := KC.up g
  replace KV := KV.up g
  replace hgV := hgV.up g
  replace h_outward := h_outward.up R g
  replace h_law_row := h_law_row.up R g
  replace h_law_next := h_law_next.up R g
  replace h_law_wrong := h_law_wrong.up R g
  replace h_law_deed := h_law_deed.up R g
  replace h_law_fresh := h_law_fresh.up R g
  replace h_law_whole := h_law_whole.up R g
  obtain ⟨m_v, IV, e_v⟩ := initv_ok (w := w) KV (DV.up g)
  obtain ⟨m_n, h_is_gone, e_n⟩ := gone5_ok (w := w) (p := p) B KC KV (DN.up g)
  obtain ⟨m_l, h_lacking, e_l⟩ := lack5_ok (w := w) (p := p) B KC KV (DL.up g) h_is_gone e_n
  obtain ⟨m_w, h_wrong, e_w⟩ := wrong5_ok (w := w) B KC KV HL (DW.up g) h_outward h_lacking e_l
  obtain ⟨m_g, h_give, e_g⟩ := give4_ok (w := w) B HS KC KV HL (DG.up g) h_outward
  obtain ⟨m_d, h_do, e_d⟩ := do5_ok (w := w) (p := p) B KC KV hgV IV e_v (DD.up g) h_wrong h_give
  refine ⟨_, (St.cons (S1.ownTree h_law_fresh rfl (by decide +kernel) (by decide +kernel) (by decide) (by intro _; rfl) (by intro _ _; rfl))
    (St.cons (S1.for (It.enum HE (Ev.slice Ev.v (Pt.yes Ev.cint) Pt.no Pt.no (by intro _ _; exact ⟨_, rfl⟩)) (by decide +kernel) (by intro _; rfl)) (Tg.tuple (xs := ["_law_turn", "_law_cell"]) (by decide +kernel) rfl (by intro _; rfl)) (St.cons (S1.assign (Ev.def h_law_row (Evs.cons (Ev.bin Ev.v Ev.cint) (Evs.cons Ev.v (Evs.cons Ev.v (Evs.cons Ev.cint Evs.nil)))) (by decide +kernel) (by decide) (by intro _; rfl)) (by decide +kernel))
      (St.cons (S1.if (Tr.all (Trs.consOr (Tr.cmp (Ev.bin Ev.v Ev.cint) Ev.cint) (Trs.consOr (Tr.cmp (Ev.idx Ev.v Ev.cint) (Ev.tuple (Evs.cons Ev.s (Evs.cons Ev.s Evs.nil)))) Trs.nilOr))) (St.cons (S1.assign (Ev.def h_law_next (Evs.cons (Ev.bin Ev.v Ev.cint) (Evs.cons Ev.v (Evs.cons Ev.v (Evs.cons Ev.v Evs.nil)))) (by decide +kernel) (by decide) (by intro _; rfl)) (by decide +kernel))
        St.nil) St.nil)
      (St.cons (S1.assign (Ev.list (Evs.cons Ev.v Evs.nil)) (by decide +kernel))
      (St.cons (S1.if (Tr.all (Trs.consAnd (Tr.cmp (Ev.idx Ev.v Ev.cint) Ev.s) (Trs.consAnd (Tr.cmp (Ev.bin Ev.v Ev.cint) Ev.cint) Trs.nilAnd))) (St.cons (S1.assign (Ev.bin Ev.v (Ev.list (Evs.cons (Ev.tuple (Evs.cons Ev.s (Evs.cons (Ev.idx Ev.v (Ev.bin Ev.v Ev.cint)) (Evs.cons (Ev.idx Ev.v Ev.cint) Evs.nil)))) (Evs.cons (Ev.tuple (Evs.cons Ev.s (Evs.cons (Ev.idx Ev.v Ev.cint) Evs.nil))) (Evs.cons (Ev.tuple (Evs.cons Ev.s (Evs.cons (Ev.idx Ev.v Ev.cint) Evs.nil))) Evs.nil))))) (by decide +kernel))
        St.nil) St.nil)
      (St.cons (S1.for (It.data Ev.v (by intro _ _; rfl)) (Tg.name (by decide +kernel)) (St.cons (S1.assign (Ev.def h_law_wrong (Evs.cons Ev.v (Evs.cons Ev.v (Evs.cons Ev.v Evs.nil))) (by decide +kernel) (by decide) (by intro _; rfl)) (by decide +kernel))
        (St.cons (S1.if (Tr.all (Trs.consAnd (Tr.cmp Ev.v Ev.s) (Trs.consAnd (Tr.cmp (Ev.idx Ev.v Ev.cint) Ev.s) Trs.nilAnd))) (St.cons (S1.callM h_law_deed Ev.v Ev.v (by decide +kernel) (by decide +kernel) (by decide) (by decide) (by intro _; rfl) (by intro _; rfl) (by intro _; rfl) (by intro _; rfl) (by intro env h; unfold interactive; rw [h]; rfl))
          St.nil) St.nil)
        (St.cons (S1.methA (Va := V) h_do (Evs.cons Ev.v Evs.nil) (by decide +kernel) (by decide +kernel) (by decide) (by intro _; rfl) (by intro _; rfl) (by rfl) (by intro _; rfl) (by intro _ _; rfl))
        (St.cons (S1.if (Tr.all (Trs.consOr (Tr.not (Tr.val (Ev.isinst tyOk_str (by decide +kernel) B.isinstance (by decide +kernel) B.str Ev.v (by intro _; rfl)) (by intro _ _; rfl))) (Trs.consOr (Tr.cmp Ev.v Ev.v) Trs.nilOr))) (St.cons (S1.ret Ev.cbool)
          St.nil) St.nil)
        St.nil)))))
      (St.cons (S1.if (Tr.all (Trs.consOr (Tr.cmp (Ev.attr KC KV Ev.v (by intro _; with_unfolding_all rfl)) (Ev.idx Ev.v Ev.s)) (Trs.consOr (Tr.cmp (Ev.attr KC KV Ev.v (by intro _; with_unfolding_all rfl)) (Ev.idx Ev.v Ev.s)) (Trs.consOr (Tr.cmp (Ev.attr KC KV Ev.v (by intro _; with_unfolding_all rfl)) (Ev.idx Ev.v Ev.s)) Trs.nilOr)))) (St.cons (S1.ret Ev.cbool)
        St.nil) St.nil)
      St.nil)))))))
    (St.cons (S1.if (Tr.all (Trs.consOr (Tr.not (Tr.val (Ev.isinst tyOk_list (by decide +kernel) B.isinstance (by decide +kernel) B.list (Ev.attr KC KV Ev.v (by intro _; with_unfolding_all rfl)) (by intro _; rfl)) (by intro _ _; rfl))) (Trs.consOr (Tr.not (Tr.val (Ev.isinst tyOk_list (by decide +kernel) B.isinstance (by decide +kernel) B.list (Ev.attr KC KV Ev.v (by intro _; with_unfolding_all rfl)) (by intro _; rfl)) (by intro _ _; rfl))) (Trs.consOr (Tr.not (Tr.val (Ev.def h_law_whole (Evs.cons (Ev.attr KC KV Ev.v (by intro _; with_unfolding_all rfl)) Evs.nil) (by decide +kernel) (by decide) (by intro _; rfl)) (by intro _ _; rfl))) Trs.nilOr)))) (St.cons (S1.ret Ev.cbool)
      St.nil) St.nil)
    (St.cons (S1.ret (Ev.cmp (Ev.comp (locs := [".0", "_law_one"]) (by decide +kernel) (It.data (Ev.bin (Ev.attr KC KV Ev.v (by intro _; with_unfolding_all rfl)) (Ev.attr KC KV Ev.v (by intro _; with_unfolding_all rfl))) (by intro _ _; rfl)) (TgL.name (by decide +kernel) (by decide +kernel)) (Ifs.one (Tr.not (Tr.val (Ev.def h_law_whole (Evs.cons Ev.v Evs.nil) (by decide +kernel) (by decide) (by intro _; rfl)) (by intro _ _; rfl)))) Ev.v) (Ev.list Evs.nil) (by rfl)))
    St.nil)))), ?_⟩
  clear h_wrong h_give h_do h_lacking h_is_gone h_outward h_law_row h_law_next h_law_wrong h_law_deed h_law_fresh h_law_whole h_law_plots h_law_names IV e_v e_n e_l DI DN DL DW DG DD DV D HL hgS hgV KC KV HS HE B R R' g
  have hscan : ∀ q ∈ (plotsS l).map (·.1), Chain (plotsS l) (scan (plotsS l).reverse (some q)) ∧ (scan (plotsS l).reverse (some q))[0]? = some q ∧ (scan (plotsS l).reverse (some q)).length ≤ 90 := fun q hq => by
    obtain ⟨c, h1, h2, h3, h4⟩ := scan_all hq
    rw [h4]; exact ⟨h1, h2, h3⟩
  have hroot : ∃ p ∈ (plotsS l).map (·.1), (scan (plotsS l).reverse (some p))[1]? = none := by
    have hp0 : nameS l 0 ∈ (plotsS l).map (·.1) := by rw [plots_fst]; exact List.mem_map.mpr ⟨0, List.mem_range.mpr (by lia), rfl⟩
    refine ⟨nameS l 0, hp0, ?_⟩
    obtain ⟨h1, h2, h3⟩ := hscan _ hp0
    have := h1 0 _ h2
    rw [plots_lookup (by lia)] at this
    have ho : outerS l 0 = none := if_neg (by have := (pick_le l 0).1; lia)
    rw [ho] at this
    simpa using this.symm
  have hout : ∀ q ∈ (plotsS l).map (·.1), m_o [.list ((plotsS l).map plotP), strP q] = some (.list ((scan (plotsS l).reverse (some q)).map strP)) ∧ scan (plotsS l).reverse (some q) ≠ [] ∧ (scan (plotsS l).reverse (some q)).length ≤ 90 := fun q hq =>
    ⟨e_o _ _ _ hpnd (Nat.le_trans hp60 (by decide)) (hscan q hq).1 (hscan q hq).2.1 (hscan q hq).2.2, fun e => by have := (hscan q hq).2.1; rw [e] at this; simp at this, (hscan q hq).2.2⟩
  refine seq rfl ?_
  generalize hcs : (l.take l.length).drop (clipLo (some 6) l.length) = cs
  have hcl : cs.length ≤ 57 := by
    have h6 : clipLo (some 6) l.length = min 6 l.length := rfl
    rw [← hcs, h6, List.length_drop, List.length_take, Nat.min_self]
    rcases Nat.le_total 6 l.length with h | h
    · rw [Nat.min_eq_left h]; exact Nat.le_trans (Nat.sub_le_sub_right hll 6) (by decide)
    · rw [Nat.min_eq_right h, Nat.sub_self]; exact Nat.zero_le _
  clear hmany hlen hpnd hscan hll
  generalize hpsd : plotsS l = ps at *
  generalize hnsd : namesS l ps = ns at *
  refine seqE (fun ρ => ∃ st k, Inv5 ps k st ∧ k ≤ 400 ∧ K5 C V p ps ns st ρ) ?_ ?_
  · refine for_run (enumD (intsP cs)) .d (by simp only [itr_eq, e_set, cond_true, cond_false, e_rho_nil, e_rho, e_flist, e_rv, String.reduceBEq, e_sll, hi_none, Option.bind_eq_bind, Option.bind_some, Option.map_some, e_listOf, ints_length, ints_take, newL_ints, hcs]) (by decide) ?_
    refine (forD_inv' (fun i ρ => ∃ st, Inv5 ps (4 * i) st ∧ K5 C V p ps ns st ρ) ?_ ?_).imp fun ρ' h => ⟨h.1, ?_⟩
    · exact ⟨sta0, inv5_0 ps, ⟨by kernel_rfl, by kernel_rfl, by kernel_rfl, by kernel_rfl⟩⟩
    · rintro i x ρ hx ⟨st, hi, K⟩
      obtain ⟨y, hy, rfl⟩ := enumD_get hx
      rw [show intsP cs = cs.map PyData.int from rfl, List.getElem?_map] at hy
      obtain ⟨c, hc, rfl⟩ := Option.map_eq_some_iff.mp hy
      have hi57 : i < 57 := Nat.lt_of_lt_of_le (List.getElem?_eq_some_iff.mp hc).1 hcl
      have hk4 : 4 * i + 4 ≤ 800 := by clear hx hy hc hi; lia
      refine ⟨_, by simp only [e_putRd, e_tup, e_putn, e_putc, fix_d, Option.bind_some, List.map_cons, List.map_nil]; rfl, ?_⟩
      have hr := e_row (c / 2) ps ns 0 hpp hnpos (by decide)
      have hrop : ∀ q, rowS (c / 2) ps ns 0 = .op q → q ∈ ps.map (·.1) := fun q hq => row_op hpp hq
      generalize rowS (c / 2) ps ns 0 = r0 at hr hrop
      refine seqN (run_put (rowP r0) (by simp only [evl_eq, e_div, e_set, cond_true, cond_false, e_rv, String.reduceBEq, Option.bind_eq_bind, Option.bind_some, Option.map_some, List.map_cons, List.map_nil, Int.reduceLT, K.plots, K.names, hr])) ?_
      refine seqX (fun ρ' => ∃ r, ρ' "_law_row_here" = some (.val ⟨rowP r, .d⟩) ∧ ρ' "_law_cell" = some (.val ⟨.int c, .d⟩) ∧ (∀ q, r = .op q → q ∈ ps.map (·.1)) ∧ (∀ k, r ≠ .fork k ∧ r ≠ .go k) ∧ K5 C V p ps ns st ρ') ?_ ?_
      · have htest : ∀ b : Bool, isFG r0 = b → (if (c % 2 == 1) = true then some true else if b = true then some true else some false) = some (c % 2 == 1 || b) := fun b _ => by cases (c % 2 == 1) <;> cases b <;> rfl
        cases hb : (c % 2 == 1 || isFG r0) with
        | true =>
          obtain ⟨r, hn, _, h1, h2⟩ := e_next (c / 2) ps ns st hpp (Nat.le_trans hp60 (by decide)) hnpos (hi.good (by lia)).1.opn hi.inv.held (fun q hq => Nat.le_trans (hout q hq).2.2 (by decide)) hroot
          refine if_yes (by simp only [tst_eq, e_mod, e_set, cond_true, cond_false, e_rv, e_eqi, fix_d, String.reduceBEq, le_line, fls_nil, fls_d, Option.bind_eq_bind, Option.bind_some, if_true, List.map_cons, List.map_nil, List.length_cons, List.length_nil, Int.reduceLT, Nat.reduceAdd, Nat.reduceLeDiff, row_zero, fg_in]; exact (htest _ rfl).trans (congrArg some hb)) (seqN (run_put (rowP r) (by simp only [evl_eq, e_div, e_set, cond_true, cond_false, e_rv, String.reduceBEq, Option.bind_eq_bind, Option.bind_some, Option.map_some, List.map_cons, List.map_nil, Int.reduceLT, K.plots, K.names, K.state, e_rt, hn])) (doneN ⟨r, by simp only [e_set, cond_true, cond_false, String.reduceBEq], by simp only [e_set, cond_true, cond_false, String.reduceBEq], h1, h2, ⟨by simp only [e_set, cond_false, String.reduceBEq, K.store], by simp only [e_set, cond_false, String.reduceBEq, K.state], by simp only [e_set, cond_false, String.reduceBEq, K.plots], by simp only [e_set, cond_false, String.reduceBEq, K.names]⟩⟩))
        | false =>
          have h2 := fg_ne (Bool.or_eq_false_iff.mp hb).2
          refine if_no (by simp only [tst_eq, e_mod, e_set, cond_true, cond_false, e_rv, e_eqi, fix_d, String.reduceBEq, le_line, fls_nil, fls_d, Option.bind_eq_bind, Option.bind_some, if_true, List.map_cons, List.map_nil, List.length_cons, List.length_nil, Int.reduceLT, Nat.reduceAdd, Nat.reduceLeDiff, row_zero, fg_in]; exact (htest _ rfl).trans (congrArg some hb)) (doneN ⟨r0, by simp only [e_set, cond_true, cond_false, String.reduceBEq], by simp only [e_set, cond_true, cond_false, String.reduceBEq], hrop, h2, ⟨by simp only [e_set, cond_false, String.reduceBEq, K.store], by simp only [e_set, cond_false, String.reduceBEq, K.state], by simp only [e_set, cond_false, String.reduceBEq, K.plots], by simp only [e_set, cond_false, String.reduceBEq, K.names]⟩⟩)
      clear K hr hrop
      rintro ρ ⟨r, f1, f2, hop, hfg, K⟩
      refine seqN (run_put (.list [rowP r]) (by simp only [evl_eq, e_rv, le_line, fls_nil, fls_d, newL_d, Option.bind_eq_bind, Option.bind_some, if_true, List.map_cons, List.map_nil, List.length_cons, List.length_nil, Nat.reduceAdd, Nat.reduceLeDiff, f1])) ?_
      refine seqX (fun ρ' => ∃ rs : List Row, rs.length ≤ 4 ∧ ρ' "_law_some" = some (.val ⟨.list (rs.map rowP), .d⟩) ∧ (∀ r ∈ rs, (∀ q, r = .op q → q ∈ ps.map (·.1)) ∧ ∀ k, r ≠ .fork k ∧ r ≠ .go k) ∧ K5 C V p ps ns st ρ') ?_ ?_
      · have base : ∀ ρ', ρ' "_law_some" = some (.val ⟨.list [rowP r], .d⟩) → K5 C V p ps ns st ρ' → ∃ rs : List Row, rs.length ≤ 4 ∧ ρ' "_law_some" = some (.val ⟨.list (rs.map rowP), .d⟩) ∧ (∀ r ∈ rs, (∀ q, r = .op q → q ∈ ps.map (·.1)) ∧ ∀ k, r ≠ .fork k ∧ r ≠ .go k) ∧ K5 C V p ps ns st ρ' := fun ρ' h1 h2 => ⟨[r], Nat.le_of_ble_eq_true rfl, h1, fun r' hr' => by rw [List.mem_singleton.mp hr']; exact ⟨hop, hfg⟩, h2⟩
        have K' : ∀ v, K5 C V p ps ns st (ρ.set "_law_some" v) := fun v => ⟨by simp only [e_set, cond_false, String.reduceBEq, K.store], by simp only [e_set, cond_false, String.reduceBEq, K.state], by simp only [e_set, cond_false, String.reduceBEq, K.plots], by simp only [e_set, cond_false, String.reduceBEq, K.names]⟩
        by_cases hsame : ∃ n o, r = .same n o ∧ c % 3 > 0
        · obtain ⟨n, o, rfl, h3⟩ := hsame
          have hadd : ([rowP (.same n o)] : List PyData).length + 3 ≤ sizeLine := le_line (Nat.le_of_ble_eq_true rfl)
          have i1 : aIdx (rowP (.same n o)) (.int 1) = some (strP n) := rfl
          have i2 : aIdx (rowP (.same n o)) (.int 2) = some (strP o) := rfl
          have hx : ∃ x, aIdx (rowP (.same n o)) (.int (c % 3)) = some (strP x) := by
            have h4 := Int.emod_lt_of_pos c (show (0 : Int) < 3 by decide)
            rcases (show c % 3 = 1 ∨ c % 3 = 2 by lia) with e | e
            · rw [e]; exact ⟨n, rfl⟩
            · rw [e]; exact ⟨o, rfl⟩
          obtain ⟨x, hx⟩ := hx
          refine if_yes (by simp only [tst_eq, e_mod, e_set, cond_false, e_rv, e_gt, e_eqs, fix_d, ofS_beq, String.reduceBEq, Option.bind_eq_bind, Option.bind_some, if_true, Int.reduceLT, f1, f2, row_zero, Row.parts, decide_eq_true h3]) ?_
          refine seqN (run_put (.list (([.same n o, .add x o, .tell n, .tell o] : List Row).map rowP)) ?_) (doneN ⟨[.same n o, .add x o, .tell n, .tell o], Nat.le_refl _, by simp only [e_set, cond_true, String.reduceBEq, List.map_cons, List.map_nil], fun r hr => ?_, ?_⟩)
          · simp only [evl_eq, e_mod, e_addl, e_set, cond_true, cond_false, e_rv, fix_d, String.reduceBEq, le_line, fls_nil, fls_d, newL_d, Option.bind_eq_bind, Option.bind_some, if_true, List.map_cons, List.map_nil, List.length_cons, List.length_nil, Int.reduceLT, Nat.reduceAdd, Nat.reduceLeDiff, f1, f2, hx, i1, i2]
            kernel_rfl
          · simp only [List.mem_cons, List.not_mem_nil, or_false] at hr
            rcases hr with rfl | rfl | rfl | rfl <;> exact ⟨fun q h => (nomatch h), fun k => ⟨nofun, nofun⟩⟩
          · exact ⟨by simp only [e_set, cond_false, String.reduceBEq, List.map_cons, List.map_nil, K.store], by simp only [e_set, cond_false, String.reduceBEq, List.map_cons, List.map_nil, K.state], by simp only [e_set, cond_false, String.reduceBEq, List.map_cons, List.map_nil, K.plots], by simp only [e_set, cond_false, String.reduceBEq, List.map_cons, List.map_nil, K.names]⟩
        · refine if_no ?_ (doneN (base _ (by simp only [e_set, cond_true, String.reduceBEq]) (K' _)))
          simp only [tst_eq, e_mod, e_set, cond_false, e_rv, e_gt, e_eqs, fix_d, ofS_beq, String.reduceBEq, Option.bind_eq_bind, Option.bind_some, decide_eq_true_eq, Int.reduceLT, f1, f2, row_zero]
          have hno : (r.parts.1 == "same") = false ∨ ¬ c % 3 > 0 := by
            by_cases h : c % 3 > 0
            · refine .inl ?_
              cases r <;> first | rfl | exact absurd ⟨_, _, rfl, h⟩ hsame
            · exact .inr h
          rcases hno with e | e
          · rw [e]; rfl
          · rw [if_neg e]; split <;> rfl
      clear K f1 f2 hop hfg
      rintro ρ ⟨rs, hrs, f1, hgood, K⟩
      refine seqX (fun ρ' => ∃ st', Inv5 ps (4 * i + 4) st' ∧ K5 C V p ps ns st' ρ') ?_ ?_
      · refine for_run (rs.map rowP) .d (by simp only [itr_eq, e_rv, Option.bind_some, f1, itemsOf]) (by decide) ?_
        refine (forD_inv' (fun j ρ => ∃ st', Inv5 ps (4 * i + j) st' ∧ K5 C V p ps ns st' ρ) ⟨st, hi, K⟩ ?_).imp fun ρ' h => ⟨h.1, ?_⟩
        · clear K f1 hi
          rintro j x ρ hx ⟨st, hi, K⟩
          rw [List.getElem?_map] at hx
          obtain ⟨r, hr, rfl⟩ := Option.map_eq_some_iff.mp hx
          have hj4 : j < 4 := Nat.lt_of_lt_of_le (List.getElem?_eq_some_iff.mp hr).1 hrs
          obtain ⟨hop, hfg⟩ := hgood r (List.mem_of_getElem? hr)
          refine ⟨_, by simp only [e_putRd, fix_d]; rfl, ?_⟩
          obtain ⟨due, st', h1, h2, h3, h4, h5⟩ := one_ok hi (Nat.le_trans (Nat.add_le_add_left (Nat.le_of_lt hj4) _) hk4) hp60 hout e_wr e_deed e_w e_g e_d hop hfg
          refine seqN (run_put (strT due) (by simp only [evl_eq, e_set, cond_true, cond_false, e_rv, String.reduceBEq, Option.bind_eq_bind, Option.bind_some, Option.map_some, List.map_cons, List.map_nil, K.plots, K.state, e_rt, h1])) ?_
          refine seqX (fun ρ' => ρ' "_law_due" = some (.val ⟨strT due, .d⟩) ∧ ρ' "_law_one" = some (.val ⟨rowP r, .d⟩) ∧ ρ' "_law_store" = some (.own (.tree none (storeD C V p (stF5 st)))) ∧ ρ' "_law_state" = some (.own (.tree none (staP st'))) ∧ ρ' "_law_plots_here" = some (.val ⟨.list (ps.map plotP), .d⟩) ∧ ρ' "_law_names_here" = some (.val ⟨.list (ns.map strP), .d⟩)) ?_ ?_
          · by_cases he : due = "" ∧ r ≠ .fin
            · obtain ⟨he, hrf⟩ := he
              subst he
              refine if_yes (by simp only [tst_eq, e_set, cond_true, cond_false, e_rv, e_eqs, e_nes, fix_d, ofS_beq, String.reduceBEq, Option.bind_eq_bind, Option.bind_some, if_true, row_zero]; cases r <;> first | exact absurd rfl hrf | kernel_rfl) ?_
              refine seqN (run_callM (ro := none) (d := staP st) (d' := staP st') (v1 := ⟨.list (ps.map plotP), .d⟩) (v3 := ⟨rowP r, .d⟩) (by simp only [e_set, cond_false, String.reduceBEq, K.state]) (by simp only [evl_eq, e_set, cond_false, e_rv, String.reduceBEq, Option.bind_some, K.plots]) (by simp only [evl_eq, e_set, cond_true, cond_false, e_rv, String.reduceBEq, Option.bind_some]) (fun h => by cases h) (flat_row r) (h2 rfl) rfl) ?_
              exact doneN ⟨by simp only [e_set, cond_true, cond_false, String.reduceBEq], by simp only [e_set, cond_true, cond_false, String.reduceBEq], by simp only [e_set, cond_false, String.reduceBEq, K.store], by simp only [e_set, cond_true, cond_false, String.reduceBEq], by simp only [e_set, cond_false, String.reduceBEq, K.plots], by simp only [e_set, cond_false, String.reduceBEq, K.names]⟩
            · have hs : st' = st := h3 (by
                by_cases h : due = ""
                · exact .inr (Classical.byContradiction fun q => he ⟨h, q⟩)
                · exact .inl h)
              subst hs
              refine if_no ?_ (doneN ⟨by simp only [e_set, cond_true, cond_false, String.reduceBEq], by simp only [e_set, cond_true, cond_false, String.reduceBEq], by simp only [e_set, cond_false, String.reduceBEq, K.store], by simp only [e_set, cond_false, String.reduceBEq, K.state], by simp only [e_set, cond_false, String.reduceBEq, K.plots], by simp only [e_set, cond_false, String.reduceBEq, K.names]⟩)
              by_cases h : due = ""
              · have hf : r = .fin := Classical.byContradiction fun q => he ⟨h, q⟩
                subst h hf
                simp only [tst_eq, e_set, cond_true, cond_false, e_rv, e_eqs, e_nes, fix_d, ofS_beq, String.reduceBEq, Option.bind_eq_bind, Option.bind_some, if_true, row_zero]; kernel_rfl
              · have hd : (due == "") = false := beq_eq_false_iff_ne.mpr h
                simp only [tst_eq, e_set, cond_true, cond_false, e_rv, e_eqs, fix_d, ofS_beq, String.reduceBEq, Option.bind_eq_bind, Option.bind_some, if_false, Bool.false_eq_true, hd]
          clear K
          rintro ρ ⟨k1, k2, k3, k4, k5, k6⟩
          refine seqN (mMeth_run (ro := none) (v := ⟨rowP r, .d⟩) (by unfold treeOf; simp only [k3]) (by simp only [e_rv, Option.bind_eq_bind, Option.bind_some, k2]) (flat_row r) h4 rfl rfl) ?_
          refine seqN (ifR_no (by simp only [tst_eq, e_set, cond_true, cond_false, e_rv, e_nes, e_tb, String.reduceBEq, Option.bind_eq_bind, Option.bind_some, Option.map_some, if_false, Bool.false_eq_true, Bool.not_true, isTo_str, k1, isT, tyName, beq_self_eq_true, Bool.true_or, Bool.false_and]) rfl) (doneN ⟨st', h5, ⟨by simp only [e_set, cond_true, cond_false, String.reduceBEq], by simp only [e_set, cond_false, String.reduceBEq, k4], by simp only [e_set, cond_false, String.reduceBEq, k5], by simp only [e_set, cond_false, String.reduceBEq, k6]⟩⟩)
        · obtain ⟨_, st', h1, h2⟩ := h
          rw [List.length_map] at h1
          exact ⟨st', h1.mono (Nat.add_le_add_left hrs _), h2⟩
      clear K f1 hi
      rintro ρ ⟨st, hi, K⟩
      have a1 : attrS C V "told" (storeD C V p (stF5 st)) = some (.list (intsP st.told)) := attrS_told ..
      have a2 : attrS C V "given" (storeD C V p (stF5 st)) = some (.list (intsP st.given)) := attrS_given ..
      have a3 : attrS C V "opened" (storeD C V p (stF5 st)) = some (.int st.many) := attrS_opened ..
      have n1 := e_ne_self (plain_list_ints st.told)
      have n2 := e_ne_self (plain_list_ints st.given)
      exact seqN (ifR_no (by simp only [tst_eq, e_fint, e_flist, e_nei, Option.bind_eq_bind, Option.bind_some, Option.map_some, if_false, Bool.false_eq_true, Bool.not_true, K.store, K.state, e_rtT, a1, a2, a3, st_told, st_given, st_many, n1, n2, beq_self_eq_true, Bool.not_true]) rfl) (doneN ⟨st, hi, K⟩)
    · obtain ⟨_, st, h1, h2⟩ := h
      refine ⟨st, _, h1, ?_, h2⟩
      rw [enumD_len, ints_length]
      exact Nat.le_trans (Nat.mul_le_mul_left 4 hcl) (by decide)
  · rintro ρ ⟨st, k, hi, hk, K⟩
    have a1 : attrS C V "told" (storeD C V p (stF5 st)) = some (.list (intsP st.told)) := attrS_told ..
    have a2 : attrS C V "given" (storeD C V p (stF5 st)) = some (.list (intsP st.given)) := attrS_given ..
    have a3 : attrS C V "opened" (storeD C V p (stF5 st)) = some (.int st.many) := attrS_opened ..
    have hsz : (intsP st.told).length + (intsP st.given).length ≤ sizeLine := le_line (by rw [ints_length, ints_length]; exact Nat.le_trans (Nat.add_le_add (Nat.le_trans hi.told hk) (Nat.le_trans (Nat.le_trans (Nat.le_add_right _ _) hi.gv) hk)) (by decide))
    refine seq (ifR_no (by simp only [tst_eq, e_fint, e_flist, e_tb, String.reduceBEq, Option.bind_eq_bind, Option.bind_some, Option.map_some, if_false, Bool.false_eq_true, List.map_cons, List.map_nil, Bool.not_true, isTo_list, K.store, e_rtT, a1, a2, a3, isT, tyName, beq_self_eq_true, Bool.true_or, Bool.false_and, e_wh]) rfl) (seqRet ?_)
    have hap : intsP st.told ++ intsP st.given = intsP (st.told ++ st.given) := by unfold intsP; rw [List.map_append]
    have pn : plain 60 (.list []) := plain_mono (plain_list (k := 1) fun x hx => nomatch hx) (by decide)
    have pne := e_eq_self pn
    simp only [run_eq, e_addl, e_flist, le_line, fls_nil, newL_d, Option.bind_eq_bind, Option.bind_some, Option.map_some, if_true, List.map_nil, List.length_nil, Nat.reduceLeDiff, K.store, e_rtT, a1, a2, compV, hsz, hap, newL_ints, itemsOf]
    rw [show intsP (st.told ++ st.given) = (st.told ++ st.given).map PyData.int from rfl, comp_enc PyData.int (fun _ => none) (fun i _ => by simp only [e_set, cond_true, e_fint, e_rv, e_putRd, e_tb, e_inc, memS_nil, memS_cons, Bool.false_or, String.reduceBEq, Option.bind_some, Option.map_some, if_true, if_false, Bool.false_eq_true, List.map_cons, List.map_nil, Bool.not_true, cstep, e_wh]), fm_none']
    simp only [e_ret, Option.bind_some, Option.map_some, pne]
theorem whole_ok (B : Bui hb) (D : DefAt hb "_law_whole" (fnS pw 11) ["_law_thing"] (fnB pw 11)) : ∃ m, DefG pw w hb 2 "_law_whole" m ∧ ∀ i : Int, m [.int i] = some (.bool true) := by
  refine ⟨_, DefG.of D (n := 1) (St.cons (S1.ret (Ev.and2 (Ev.isinst tyOk_int (by decide +kernel) B.isinstance (by decide +kernel) B.int Ev.v (by intro _; rfl)) (Ev.not (Ev.isinst tyOk_bool (by decide +kernel) B.isinstance (by decide +kernel) B.bool Ev.v (by intro _; rfl)))))
    St.nil) _ (fun _ _ h => h), ?_⟩
  intro i
  refine fn_ret rfl ?_
  refine seqRet ?_
  simp only [run_eq, cond_true, e_rho_nil, e_rho, e_fint, e_rv, e_ret, e_tb, String.reduceBEq, Bool.and_true, Option.bind_eq_bind, Option.bind_some, if_true, Bool.not_false, isTo_int, isT, tyName, Bool.or_false, Bool.false_and]
end

end Mine
open PySem PySem.W PyProof.Rows Mine
set_option maxRecDepth 100000 in
set_option maxHeartbeats 8000000 in
theorem PySem.Challenge.cw_uf010022_05_holds : PySem.Challenge.rw_uf010022_05.Holds := by
  w_on; refine holds_law (by decide +kernel) fun said => ?_; o_head Hook.none
  case hw => w_witness2
  intro w s₀ s₁ mg mb G Y fa o pm cd doc dV kV ho hd hcd hD hmg hg args vals as hpre hlay hrd hwl hlo
  refine Ground.open G ?_
  intro T TB D TE TW
  have hmg' : mg (Str.ofString "law") = some (.ref fa) := hmg
  clear ho hd hcd hD hmg
  have D1 : DefAt s₁.heap "_law_at" (fnS pw 6) ["_law_script", "_law_k"] (fnB pw 6) := defTop T 1 6 (by kernel_rfl) (by kernel_rfl) (by kernel_rfl) (by kernel_rfl) (by decide +kernel)
  have D2 : DefAt s₁.heap "_law_called" (fnS pw 7) ["_law_cell", "_law_k", "_law_signs"] (fnB pw 7) := defTop T 2 7 (by kernel_rfl) (by kernel_rfl) (by kernel_rfl) (by kernel_rfl) (by decide +kernel)
  have D3 : DefAt s₁.heap "_law_plots" (fnS pw 8) ["_law_script"] (fnB pw 8) := defTop T 3 8 (by kernel_rfl) (by kernel_rfl) (by kernel_rfl) (by kernel_rfl) (by decide +kernel)
  have D4 : DefAt s₁.heap "_law_names" (fnS pw 9) ["_law_script", "_law_plots_here"] (fnB pw 9) := defTop T 4 9 (by kernel_rfl) (by kernel_rfl) (by kernel_rfl) (by kernel_rfl) (by decide +kernel)
  have D5 : DefAt s₁.heap "_law_row" (fnS pw 10) ["_law_cell", "_law_plots_here", "_law_names_here", "_law_size"] (fnB pw 10) := defTop T 5 10 (by kernel_rfl) (by kernel_rfl) (by kernel_rfl) (by kernel_rfl) (by decide +kernel)
  have D6 : DefAt s₁.heap "outward" (fnS pw 1) ["plots", "plot"] (fnB pw 1) := defTop T 0 1 (by kernel_rfl) (by kernel_rfl) (by kernel_rfl) (by kernel_rfl) (by decide +kernel)
  have D7 : DefAt s₁.heap "_law_outward" (fnS pw 12) ["_law_plots_here", "_law_plot"] (fnB pw 12) := defTop T 7 12 (by kernel_rfl) (by kernel_rfl) (by kernel_rfl) (by kernel_rfl) (by decide +kernel)
  have D8 : DefAt s₁.heap "_law_lack" (fnS pw 14) ["_law_state", "_law_name"] (fnB pw 14) := defTop T 9 14 (by kernel_rfl) (by kernel_rfl) (by kernel_rfl) (by kernel_rfl) (by decide +kernel)
  have D9 : DefAt s₁.heap "_law_wrong" (fnS pw 15) ["_law_plots_here", "_law_state", "_law_row_here"] (fnB pw 15) := defTop T 10 15 (by kernel_rfl) (by kernel_rfl) (by kernel_rfl) (by kernel_rfl) (by decide +kernel)
  have D10 : DefAt s₁.heap "_law_deed" (fnS pw 16) ["_law_plots_here", "_law_state", "_law_row_here"] (fnB pw 16) := defTop T 11 16 (by kernel_rfl) (by kernel_rfl) (by kernel_rfl) (by kernel_rfl) (by decide +kernel)
  have D11 : DefAt s₁.heap "_law_next" (fnS pw 17) ["_law_cell", "_law_plots_here", "_law_names_here", "_law_state"] (fnB pw 17) := defTop T 12 17 (by kernel_rfl) (by kernel_rfl) (by kernel_rfl) (by kernel_rfl) (by decide +kernel)
  have D12 : DefAt s₁.heap "_law_fresh" (fnS pw 13) [] (fnB pw 13) := defTop T 8 13 (by kernel_rfl) (by kernel_rfl) (by kernel_rfl) (by kernel_rfl) (by decide +kernel)
  have D13 : DefAt s₁.heap "_law_whole" (fnS pw 11) ["_law_thing"] (fnB pw 11) := defTop T 6 11 (by kernel_rfl) (by kernel_rfl) (by kernel_rfl) (by kernel_rfl) (by decide +kernel)
  have D14 : DefAt s₁.heap "law" (fnS pw 18) ["_law_script"] (fnB pw 18) := defTop T 13 18 (by kernel_rfl) (by kernel_rfl) (by kernel_rfl) (by kernel_rfl) (by decide +kernel)
  have B : Bui s₁.heap := ⟨bTop T (by decide +kernel) (by decide +kernel), bTop T (by decide +kernel) (by decide +kernel), bTop T (by decide +kernel) (by decide +kernel), bTop T (by decide +kernel) (by decide +kernel), bTop T (by decide +kernel) (by decide +kernel), bTop T (by decide +kernel) (by decide +kernel), bTop T (by decide +kernel) (by decide +kernel), bTop T (by decide +kernel) (by decide +kernel)⟩
  have HS : GName s₁.heap "sorted" (.builtin "sorted") := bTop T (by decide +kernel) (by decide +kernel)
  have HE : GName s₁.heap "enumerate" (.type "enumerate") := bTop T (by decide +kernel) (by decide +kernel)
  have bs : Base pw [] s₁.heap s₁.heap := base_of T (by decide +kernel) rfl
  obtain ⟨V, mV, hgV, KV, HMV⟩ := clsTop TE T.g valNames 0 (x := "Value") (by kernel_rfl) (by decide +kernel) obj_val
  obtain ⟨C, mC, hgS, KC, HM⟩ := clsTop TE T.g storeNames 1 (x := "Store") (by kernel_rfl) (by decide +kernel) obj_store
  have DI : MethAt s₁.heap C "__init__" (mthS pw 4 0) ["self", "plots"] (mthB pw 4 0) := HM pw 4 0 0 "__init__" _ (some (.builtin "object.__init__")) (by kernel_rfl) (by decide +kernel) (by rw [typeLookup_type, builtinLookup_eq_fast]; kernel_rfl)
  have DN : MethAt s₁.heap C "is_gone" (mthS pw 4 1) ["self", "value"] (mthB pw 4 1) := HM pw 4 1 1 "is_gone" _ none (by kernel_rfl) (by decide +kernel) (by rw [typeLookup_type, builtinLookup_eq_fast]; kernel_rfl)
  have DL : MethAt s₁.heap C "lacking" (mthS pw 4 2) ["self", "name"] (mthB pw 4 2) := HM pw 4 2 2 "lacking" _ none (by kernel_rfl) (by decide +kernel) (by rw [typeLookup_type, builtinLookup_eq_fast]; kernel_rfl)
  have DW : MethAt s₁.heap C "wrong" (mthS pw 4 3) ["self", "row"] (mthB pw 4 3) := HM pw 4 3 3 "wrong" _ none (by kernel_rfl) (by decide +kernel) (by rw [typeLookup_type, builtinLookup_eq_fast]; kernel_rfl)
  have DG : MethAt s₁.heap C "give" (mthS pw 4 4) ["self", "plot"] (mthB pw 4 4) := HM pw 4 4 4 "give" _ none (by kernel_rfl) (by decide +kernel) (by rw [typeLookup_type, builtinLookup_eq_fast]; kernel_rfl)
  have DD : MethAt s₁.heap C "do" (mthS pw 4 5) ["self", "row"] (mthB pw 4 5) := HM pw 4 5 5 "do" _ none (by kernel_rfl) (by decide +kernel) (by rw [typeLookup_type, builtinLookup_eq_fast]; kernel_rfl)
  have DV : InitV s₁.heap V := HMV pw 3 0 0 "__init__" _ (some (.builtin "object.__init__")) (by kernel_rfl) (by decide +kernel) (by rw [typeLookup_type, builtinLookup_eq_fast]; kernel_rfl)
  obtain ⟨m1, h1, e1⟩ := at_ok (w := w) B D1
  obtain ⟨m2, h2, e2⟩ := called_ok (w := w) B D2
  obtain ⟨m3, h3, e3⟩ := plots_ok B D3 h1 e1 h2 e2
  obtain ⟨m4, h4, e4⟩ := names_ok B D4 h1 e1 h2 e2
  obtain ⟨m5, h5, e5⟩ := row_ok (w := w) B D5
  obtain ⟨m6, h6, e6⟩ := outward_ok (w := w) B D6
  obtain ⟨m7, h7, e7⟩ := lawout_ok (w := w) B D7
  obtain ⟨m8, h8, e8⟩ := lack9_ok (w := w) B D8
  obtain ⟨m9, h9, e9⟩ := wrong9_ok B D9 h7 e7 h8 e8
  obtain ⟨m10, h10, e10⟩ := deed9_ok B D10 h7 e7
  obtain ⟨m11, h11, e11⟩ := next9_ok B D11 h5 e5 h9 e9
  have h12 := fresh5 (w := w) B D12
  obtain ⟨m13, h13, e13⟩ := whole_ok (w := w) B D13
  obtain ⟨m14, h14, e14⟩ := law_ok B bs HS HE KC KV hgS hgV DI DN DL DW DG DD DV D14 h3 e3 h4 e4 h5 e5 h12 h10 e10 h11 e11 h9 e9 h6 e6 h13 e13
  clear D1 D2 D3 D4 D5 D6 D7 D8 D9 D10 D11 D12 D13 D14 DI DN DL DW DG DD DV
  wrow_args hpre hlay hrd hwl hlo
  rename_i l _ _ _ _ _ _ _ _ _ _ _ _ hwell _ _ _ hlen _
  refine law_run h14 (e14 l (by omega)) bs T.g hmg' hwell (by omega) (by decide) fun s' k => ?_
  obtain ⟨h', tk, rfl, gr⟩ := k
  exact GoodW.toG ⟨.inl ⟨.bool true, .bool true, [], rfl, fun _ => rfl, .bool true, by wrow_post, fun _ => ⟨.nil, fun _ q => nomatch q⟩⟩, gr, rfl, hg⟩
