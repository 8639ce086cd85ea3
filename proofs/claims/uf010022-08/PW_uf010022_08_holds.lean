import PyProof.Rows.All
import PyProof.Fits
import PyProof.Rules2
import PyProof.FactsAll.str_0
import PyProof.Lay0
import PyProof.FactsLen
import PyProof.Methods
import PyProof.FactsAll.list_0
import PyProof.FactsAll.list_3
import PyProof.FactsAll.dict_0
import PyProof.TupleIter
import PyProof.NoPylong
import PyProof.Rules3
import PyProof.SliceList
import PyProof.ForAny
import PyProof.CallRoads
import PyProof.CallType
import PyProof.Cells
import PyProof.StrWalks
import PyProof.CompFree
import PyProof.PureInt
import PyProof.Conv_int_bool
import PyProof.DefCall
import PyProof.ListOps
import PyProof.DictKinds
import PyProof.DictList
import PyProof.DictRoads
import PyProof.DictStraight
import PyProof.DictTable
import PyProof.NeData
import PyProof.StrLaws
import PyProof.SliceStr2
import PyProof.StrOps
import PyProof.StrOps2
import PyProof.StrLawsJoin
import PyProof.WalksMore
import PyProof.RangeFor
import PyProof.IsInstance
import PyProof.IsInstanceH
import PyProof.IsiNone
import PyProof.ListCopy
import PyProof.ListIndexNeg
import PyProof.ListTruth
import PyProof.P3In
import PyProof.Rows.TupSub
import PyProof.WalksPairs
import PyProof.Truth
import PyProof.StrCalls2
import PyProof.Rows.CellsKey
import PyProof.Rows.RuleB_floordiv
import PyProof.Rows.RuleB_mod
import PyProof.Rows.StrTemp
import PyProof.TupleOps
import PyProof.Rows.TupMore
import PyProof.SliceMore
import PyProof.RulesAssignMore
import PyProof.Rows.ExtendIn
import Wide.All
import OpenK.AllK
import Wide.FinOn
import Lean
import PySem.Challenge.RW_uf010022_08
set_option Elab.async false
set_option linter.all false

/-! text PF1 -/
set_option autoImplicit false
namespace Mine
open PySem PySem.Calls

/-! ## heaps that grow -/
noncomputable abbrev Grow (h h' : Heap) : Prop := ∀ b o, h.get? b = some o → h'.get? b = some o
theorem Grow.refl (h : Heap) : Grow h h := fun _ _ e => e
theorem Grow.trans {h₁ h₂ h₃ : Heap} (x : Grow h₁ h₂) (y : Grow h₂ h₃) : Grow h₁ h₃ := fun b o e => y b o (x b o e)
theorem Grow.push (h : Heap) (o : Obj) : Grow h (h.push o) := fun _ _ e => Heap.get?_push_of_some o e
theorem keeps_refl (s : Shared) : Keeps s s := ⟨s.heap, s.toks, rfl, Grow.refl _⟩
theorem keeps_trans {s₁ s₂ s₃ : Shared} (x : Keeps s₁ s₂) (y : Keeps s₂ s₃) : Keeps s₁ s₃ := by
  obtain ⟨h, t, rfl, k⟩ := x
  obtain ⟨h', t', rfl, k'⟩ := y
  exact ⟨h', t', rfl, Grow.trans k k'⟩
theorem keeps_toks (s : Shared) (t : Nat) : Keeps s { s with toks := t } := ⟨s.heap, t, rfl, Grow.refl _⟩
theorem keeps_push (s : Shared) (o : Obj) : Keeps s { s with heap := s.heap.push o } := ⟨s.heap.push o, s.toks, rfl, Grow.push _ _⟩
theorem keeps_grow {s s' : Shared} (x : Keeps s s') : Grow s.heap s'.heap := by obtain ⟨h, t, rfl, k⟩ := x; exact k
theorem get?_size_none (h : Heap) {a : Addr} (ha : h.objs.size ≤ a) : h.get? a = none := by
  cases e : h.get? a with
  | none => rfl
  | some o => exact absurd (Heap.lt_size e) (Nat.not_lt.mpr ha)

/-! ## data in the heap -/
noncomputable abbrev lstObj (vs : List Value) (n : Nat) : Obj := { cls := .type "list", dict := none, data := .seq vs.toArray n, slots := #[] }
noncomputable abbrev tupObj (vs : List Value) (n : Nat) : Obj := { cls := .type "tuple", dict := none, data := .seq vs.toArray n, slots := #[] }
/-- a tuple's object -/
noncomputable def Tup (o : Obj) : Prop := ∃ vs k, o = tupObj vs k
noncomputable def dictOf (xs : List (Str × PyData)) : PyData := .dict (xs.map fun p => (.str p.1, p.2))

section
variable (prog : Program) (w : World)
mutual
inductive RD (h : Heap) : Value → PyData → List Addr → Prop
  | none : RD h .none .none []
  | bool (b : Bool) : RD h (.bool b) (.bool b) []
  | int (i : Int) (t : Tok) : RD h (.int i t) (.int i) []
  | str (x : Str) (t : Tok) : RD h (.str x t) (.str x) []
  | list {a : Addr} {vs : List Value} {n : Nat} {xs : List PyData} {as : List Addr} : h.get? a = some (lstObj vs n) → RDs h vs xs as → RD h (.ref a) (.list xs) (a :: as)
  | tuple {a : Addr} {vs : List Value} {n : Nat} {xs : List PyData} {as : List Addr} : h.get? a = some (tupObj vs n) → RDs h vs xs as → RD h (.ref a) (.tuple xs) as
  | dict {a : Addr} {kvs : List (Str × Value)} {xs : List (Str × PyData)} {as : List Addr} : h.DictOf (strKind prog w) a kvs → (a == sysModules) = false → kvs.map (·.1) = xs.map (·.1) → RDs h (kvs.map (·.2)) (xs.map (·.2)) as →
      RD h (.ref a) (dictOf xs) (a :: as)
inductive RDs (h : Heap) : List Value → List PyData → List Addr → Prop
  | nil : RDs h [] [] []
  | cons {u : Value} {us : List Value} {x : PyData} {xs : List PyData} {as bs : List Addr} : RD h u x as → RDs h us xs bs → RDs h (u :: us) (x :: xs) (as ++ bs)
end
end
variable {prog : Program} {w : World}

mutual
/-- no list or dict within -/
noncomputable def flat : PyData → Bool
  | .none => true
  | .bool _ => true
  | .int _ => true
  | .str _ => true
  | .list _ => false
  | .tuple xs => flats xs
  | .dict _ => false
noncomputable def flats : List PyData → Bool
  | [] => true
  | x :: xs => flat x && flats xs
end
mutual
/-- texts are texts, sizes are within the model's line -/
noncomputable def wf : PyData → Bool
  | .none => true
  | .bool _ => true
  | .int _ => true
  | .str x => PyData.strOk x && decide (x.length ≤ sizeLine)
  | .list xs => decide (xs.length ≤ sizeLine) && wfs xs
  | .tuple xs => decide (xs.length ≤ sizeLine) && wfs xs
  | .dict kvs => decide (kvs.length ≤ sizeLine) && wfk kvs
noncomputable def wfs : List PyData → Bool
  | [] => true
  | x :: xs => wf x && wfs xs
noncomputable def wfk : List (PyData × PyData) → Bool
  | [] => true
  | (k, x) :: xs => wf k && wf x && wfk xs
end
mutual
/-- no dict within -/
noncomputable def nd : PyData → Bool
  | .none => true
  | .bool _ => true
  | .int _ => true
  | .str _ => true
  | .list xs => nds xs
  | .tuple xs => nds xs
  | .dict _ => false
noncomputable def nds : List PyData → Bool
  | [] => true
  | x :: xs => nd x && nds xs
end
mutual
theorem can_of : ∀ x : PyData, wf x = true → nd x = true → x.canLay0 = true
  | .none, _, _ => by simp [PyData.canLay0]
  | .bool _, _, _ => by simp [PyData.canLay0]
  | .int _, _, _ => by simp [PyData.canLay0]
  | .str x, h, _ => by simp only [wf, Bool.and_eq_true] at h; simpa [PyData.canLay0] using h.1
  | .list xs, h, f => by simp only [wf, Bool.and_eq_true] at h; simp only [PyData.canLay0]; exact cans_of xs h.2 (by simpa [nd] using f)
  | .tuple xs, h, f => by simp only [wf, Bool.and_eq_true] at h; simp only [PyData.canLay0]; exact cans_of xs h.2 (by simpa [nd] using f)
  | .dict _, _, h => by simp [nd] at h
theorem cans_of : ∀ xs : List PyData, wfs xs = true → nds xs = true → PyData.canLayAll0 xs = true
  | [], _, _ => by simp [PyData.canLayAll0]
  | x :: xs, h, f => by
    simp only [wfs, Bool.and_eq_true] at h
    simp only [nds, Bool.and_eq_true] at f
    simp [PyData.canLayAll0, can_of x h.1 f.1, cans_of xs h.2 f.2]
end

section
variable {h h' : Heap}
/-- both at once -/
theorem RD.both {P : Value → PyData → List Addr → Prop} {R : List Value → List PyData → List Addr → Prop} (c1 : P .none .none []) (c2 : ∀ b, P (.bool b) (.bool b) []) (c3 : ∀ i t, P (.int i t) (.int i) []) (c4 : ∀ x t, P (.str x t) (.str x) [])
    (c5 : ∀ {a vs n xs as}, h.get? a = some (lstObj vs n) → RDs prog w h vs xs as → R vs xs as → P (.ref a) (.list xs) (a :: as)) (c6 : ∀ {a vs n xs as}, h.get? a = some (tupObj vs n) → RDs prog w h vs xs as → R vs xs as → P (.ref a) (.tuple xs) as)
    (c7 : ∀ {a} {kvs : List (Str × Value)} {xs : List (Str × PyData)} {as}, h.DictOf (strKind prog w) a kvs → (a == sysModules) = false → kvs.map (·.1) = xs.map (·.1) → RDs prog w h (kvs.map (·.2)) (xs.map (·.2)) as → R (kvs.map (·.2)) (xs.map (·.2)) as → P (.ref a) (dictOf xs) (a :: as))
    (c8 : R [] [] []) (c9 : ∀ {u us x xs as bs}, RD prog w h u x as → RDs prog w h us xs bs → P u x as → R us xs bs → R (u :: us) (x :: xs) (as ++ bs)) :
    (∀ {v x as}, RD prog w h v x as → P v x as) ∧ ∀ {vs xs as}, RDs prog w h vs xs as → R vs xs as :=
  ⟨fun {_ _ _} r => RD.rec (motive_1 := fun v x as _ => P v x as) (motive_2 := fun vs xs as _ => R vs xs as) c1 c2 c3 c4 (fun a b c => c5 a b c) (fun a b c => c6 a b c) (fun a b c d e => c7 a b c d e) c8 (fun a b c d => c9 a b c d) r,
   fun {_ _ _} r => RDs.rec (motive_1 := fun v x as _ => P v x as) (motive_2 := fun vs xs as _ => R vs xs as) c1 c2 c3 c4 (fun a b c => c5 a b c) (fun a b c => c6 a b c) (fun a b c d e => c7 a b c d e) c8 (fun a b c d => c9 a b c d) r⟩
theorem grow_both (k : Grow h h') : (∀ {v x as}, RD prog w h v x as → RD prog w h' v x as) ∧ ∀ {vs xs as}, RDs prog w h vs xs as → RDs prog w h' vs xs as :=
  RD.both .none .bool .int .str (fun a _ r => .list (k _ _ a) r) (fun a _ r => .tuple (k _ _ a) r) (fun q g e _ r => .dict (by obtain ⟨o, es, ep, ho, q⟩ := q; exact ⟨o, es, ep, k _ _ ho, q⟩) g e r) .nil (fun _ _ a r => .cons a r)
theorem RD.grow (k : Grow h h') {v : Value} {x : PyData} {as : List Addr} (r : RD prog w h v x as) : RD prog w h' v x as := (grow_both k).1 r
theorem RDs.grow (k : Grow h h') {vs : List Value} {xs : List PyData} {as : List Addr} (r : RDs prog w h vs xs as) : RDs prog w h' vs xs as := (grow_both k).2 r
/-- heaps alike but for the addresses of a list; what is a tuple stays -/
noncomputable def Off (W : List Addr) (h h' : Heap) : Prop := ∀ b o, h.get? b = some o → (b ∉ W ∨ Tup o) → h'.get? b = some o
theorem Off.of_grow {W : List Addr} (k : Grow h h') : Off W h h' := fun b o e _ => k b o e
theorem off_both {W : List Addr} (k : Off W h h') : (∀ {v x as}, RD prog w h v x as → (∀ a ∈ as, a ∉ W) → RD prog w h' v x as) ∧ ∀ {vs xs as}, RDs prog w h vs xs as → (∀ a ∈ as, a ∉ W) → RDs prog w h' vs xs as :=
  RD.both (fun _ => .none) (fun b _ => .bool b) (fun i t _ => .int i t) (fun i t _ => .str i t) (fun a _ r q => .list (k _ _ a (.inl (q _ (.head _)))) (r fun b hb => q b (.tail _ hb))) (fun a _ r q => .tuple (k _ _ a (.inr ⟨_, _, rfl⟩)) (r q))
    (fun p g e _ r q => .dict (by obtain ⟨o, es, ep, ho, p⟩ := p; exact ⟨o, es, ep, k _ _ ho (.inl (q _ (.head _))), p⟩) g e (r fun b hb => q b (.tail _ hb))) (fun _ => .nil) (fun _ _ a r q => .cons (a fun b hb => q b (List.mem_append_left _ hb)) (r fun b hb => q b (List.mem_append_right _ hb)))
theorem RD.off {W : List Addr} (k : Off W h h') {v : Value} {x : PyData} {as : List Addr} (r : RD prog w h v x as) (q : ∀ a ∈ as, a ∉ W) : RD prog w h' v x as := (off_both k).1 r q
theorem RDs.off {W : List Addr} (k : Off W h h') {vs : List Value} {xs : List PyData} {as : List Addr} (r : RDs prog w h vs xs as) (q : ∀ a ∈ as, a ∉ W) : RDs prog w h' vs xs as := (off_both k).2 r q
theorem alive_both : (∀ {v x as}, RD prog w h v x as → ∀ a ∈ as, ∃ o, h.get? a = some o) ∧ ∀ {vs xs as}, RDs prog w h vs xs as → ∀ a ∈ as, ∃ o, h.get? a = some o :=
  RD.both (fun _ q => nomatch q) (fun _ _ q => nomatch q) (fun _ _ _ q => nomatch q) (fun _ _ _ q => nomatch q) (fun a _ r b q => (List.mem_cons.mp q).elim (fun e => ⟨_, e ▸ a⟩) (r b)) (fun _ _ r b q => r b q)
    (fun p _ _ _ r b q => (List.mem_cons.mp q).elim (fun e => by obtain ⟨o, _, _, ho, _⟩ := p; exact ⟨o, e ▸ ho⟩) (r b)) (fun _ q => nomatch q) (fun _ _ a r b q => (List.mem_append.mp q).elim (a b) (r b))
theorem RD.alive {v : Value} {x : PyData} {as : List Addr} (r : RD prog w h v x as) : ∀ a ∈ as, ∃ o, h.get? a = some o := alive_both.1 r
theorem RDs.alive {vs : List Value} {xs : List PyData} {as : List Addr} (r : RDs prog w h vs xs as) : ∀ a ∈ as, ∃ o, h.get? a = some o := alive_both.2 r
theorem flat_both : (∀ {v x as}, RD prog w h v x as → flat x = true → as = []) ∧ ∀ {vs xs as}, RDs prog w h vs xs as → flats xs = true → as = [] :=
  RD.both (fun _ => rfl) (fun _ _ => rfl) (fun _ _ _ => rfl) (fun _ _ _ => rfl) (fun _ _ _ e => by simp [flat] at e) (fun _ _ r e => r (by simpa [flat] using e)) (fun _ _ _ _ _ e => by simp [flat, dictOf] at e) (fun _ => rfl)
    (fun _ _ a r e => by
      simp only [flats, Bool.and_eq_true] at e
      rw [a e.1, r e.2]; rfl)
theorem RD.flat_foot {v : Value} {x : PyData} {as : List Addr} (r : RD prog w h v x as) (e : flat x = true) : as = [] := flat_both.1 r e
theorem RDs.flat_foot {vs : List Value} {xs : List PyData} {as : List Addr} (r : RDs prog w h vs xs as) (e : flats xs = true) : as = [] := flat_both.2 r e
/-- the library's reading, where no dict is within -/
theorem reads_both : (∀ {v x as}, RD prog w h v x as → x.canLay0 = true → Reads h v x as) ∧ ∀ {vs xs as}, RDs prog w h vs xs as → PyData.canLayAll0 xs = true → ReadsAll h vs xs as :=
  RD.both (fun _ => .none) (fun b _ => .bool b) (fun i t _ => .int i t) (fun i t _ => .str i t) (fun a _ r c => .list a rfl rfl (r (by simpa [PyData.canLay0] using c))) (fun a _ r c => .tuple a rfl rfl (r (by simpa [PyData.canLay0] using c)))
    (fun _ _ _ _ _ c => by simp [PyData.canLay0, dictOf] at c) (fun _ => .nil) (fun _ _ a r c => by
      simp only [PyData.canLayAll0, Bool.and_eq_true] at c
      exact .cons (a c.1) (r c.2))
theorem RD.reads {v : Value} {x : PyData} {as : List Addr} (r : RD prog w h v x as) (c : x.canLay0 = true) : Reads h v x as := reads_both.1 r c
theorem RDs.reads {vs : List Value} {xs : List PyData} {as : List Addr} (r : RDs prog w h vs xs as) (c : PyData.canLayAll0 xs = true) : ReadsAll h vs xs as := reads_both.2 r c
theorem RDs.ind {R : List Value → List PyData → List Addr → Prop} (c8 : R [] [] []) (c9 : ∀ {u us x xs as bs}, RD prog w h u x as → RDs prog w h us xs bs → R us xs bs → R (u :: us) (x :: xs) (as ++ bs)) {vs : List Value} {xs : List PyData} {as : List Addr} (r : RDs prog w h vs xs as) : R vs xs as :=
  (RD.both (P := fun _ _ _ => True) (R := R) trivial (fun _ => trivial) (fun _ _ => trivial) (fun _ _ => trivial) (fun _ _ _ => trivial) (fun _ _ _ => trivial) (fun _ _ _ _ _ => trivial) c8 (fun a b _ r => c9 a b r)).2 r
theorem RDs.length {vs : List Value} {xs : List PyData} {as : List Addr} (r : RDs prog w h vs xs as) : vs.length = xs.length :=
  RDs.ind (R := fun vs xs _ => vs.length = xs.length) rfl (fun _ _ r => by rw [List.length_cons, List.length_cons, r]) r
theorem RDs.append {vs : List Value} {xs : List PyData} {as : List Addr} {ws : List Value} {ys : List PyData} {bs : List Addr} (r : RDs prog w h vs xs as) (q : RDs prog w h ws ys bs) : RDs prog w h (vs ++ ws) (xs ++ ys) (as ++ bs) :=
  RDs.ind (R := fun vs xs as => RDs prog w h (vs ++ ws) (xs ++ ys) (as ++ bs)) q (fun a _ r => by rw [List.append_assoc]; exact .cons a r) r
theorem RDs.get {vs : List Value} {xs : List PyData} {as : List Addr} (r : RDs prog w h vs xs as) {i : Nat} {x : PyData} (e : xs[i]? = some x) : ∃ v bs, vs[i]? = some v ∧ RD prog w h v x bs ∧ ∀ b ∈ bs, b ∈ as := by
  refine RDs.ind (R := fun vs xs as => ∀ i : Nat, xs[i]? = some x → ∃ v bs, vs[i]? = some v ∧ RD prog w h v x bs ∧ ∀ b ∈ bs, b ∈ as) (fun i e => by simp at e) (fun {u us y ys as bs} a _ r i e => ?_) r i e
  cases i with
  | zero =>
    rw [List.getElem?_cons_zero] at e
    cases e
    exact ⟨u, as, rfl, a, fun b hb => List.mem_append_left _ hb⟩
  | succ i =>
    obtain ⟨v, bs, h1, h2, h3⟩ := r i e
    exact ⟨v, bs, h1, h2, fun b hb => List.mem_append_right _ (h3 b hb)⟩
/-- a part of a list read -/
theorem RDs.part {vs : List Value} {xs : List PyData} {as : List Addr} (r : RDs prog w h vs xs as) (is : List Nat) :
    ∃ bs, RDs prog w h (is.filterMap fun i => vs[i]?) (is.filterMap fun i => xs[i]?) bs ∧ ∀ b ∈ bs, b ∈ as := by
  induction is with
  | nil => exact ⟨[], .nil, fun _ q => nomatch q⟩
  | cons i is ih =>
    obtain ⟨bs, q, hq⟩ := ih
    by_cases hi : i < xs.length
    · obtain ⟨v, cs, e1, e2, e3⟩ := r.get (i := i) (x := xs[i]) (by simp [hi])
      refine ⟨cs ++ bs, ?_, fun b hb => (List.mem_append.mp hb).elim (e3 b) (hq b)⟩
      rw [List.filterMap_cons, List.filterMap_cons, e1]
      simp only [List.getElem?_eq_getElem hi]
      exact .cons e2 q
    · have hv : vs[i]? = none := List.getElem?_eq_none (by rw [r.length]; omega)
      have hx : xs[i]? = none := List.getElem?_eq_none (by omega)
      refine ⟨bs, ?_, hq⟩
      rw [List.filterMap_cons, List.filterMap_cons, hv, hx]
      exact q
end
section
variable {h : Heap} {v : Value} {as : List Addr}
theorem RDs.cons_inv {us : List Value} {u : Value} {x : PyData} {xs : List PyData} (r : RDs prog w h (u :: us) (x :: xs) as) : ∃ bs cs, as = bs ++ cs ∧ RD prog w h u x bs ∧ RDs prog w h us xs cs := by
  cases r with
  | cons a b => exact ⟨_, _, rfl, a, b⟩
theorem RD.none_inv (r : RD prog w h v .none as) : v = .none := by cases r; rfl
theorem RD.bool_inv {b : Bool} (r : RD prog w h v (.bool b) as) : v = .bool b := by cases r; rfl
theorem RD.int_inv {i : Int} (r : RD prog w h v (.int i) as) : ∃ t, v = .int i t := by cases r; exact ⟨_, rfl⟩
theorem RD.str_inv {x : Str} (r : RD prog w h v (.str x) as) : ∃ t, v = .str x t := by cases r; exact ⟨_, rfl⟩
theorem RD.list_inv {xs : List PyData} (r : RD prog w h v (.list xs) as) : ∃ a vs n bs, v = .ref a ∧ as = a :: bs ∧ h.get? a = some (lstObj vs n) ∧ RDs prog w h vs xs bs := by
  cases r with
  | list a b => exact ⟨_, _, _, _, rfl, rfl, a, b⟩
theorem RD.tuple_inv {xs : List PyData} (r : RD prog w h v (.tuple xs) as) : ∃ a vs n, v = .ref a ∧ h.get? a = some (tupObj vs n) ∧ RDs prog w h vs xs as := by
  cases r with
  | tuple a b => exact ⟨_, _, _, rfl, a, b⟩
theorem RD.dict_inv {ps : List (PyData × PyData)} (r : RD prog w h v (.dict ps) as) : ∃ (a : Addr) (kvs : List (Str × Value)) (xs : List (Str × PyData)) (bs : List Addr), v = .ref a ∧ as = a :: bs ∧ ps = (xs.map fun p => (.str p.1, p.2)) ∧ h.DictOf (strKind prog w) a kvs ∧ (a == sysModules) = false ∧ kvs.map (·.1) = xs.map (·.1) ∧ RDs prog w h (kvs.map (·.2)) (xs.map (·.2)) bs := by
  generalize hd : PyData.dict ps = D at r
  cases r with
  | dict b1 b2 b3 b4 => exact ⟨_, _, _, _, rfl, rfl, PyData.dict.inj hd, b1, b2, b3, b4⟩
  | _ => cases hd
end
theorem wfs_append (xs ys : List PyData) : wfs (xs ++ ys) = (wfs xs && wfs ys) := by
  induction xs with
  | nil => simp [wfs]
  | cons x xs ih => simp [wfs, ih, Bool.and_assoc]
theorem wfs_iff (xs : List PyData) : wfs xs = true ↔ ∀ x ∈ xs, wf x = true := by
  induction xs with
  | nil => simp [wfs]
  | cons x xs ih => simp [wfs, ih]
theorem nds_iff (xs : List PyData) : nds xs = true ↔ ∀ x ∈ xs, nd x = true := by
  induction xs with
  | nil => simp [nds]
  | cons x xs ih => simp [nds, ih]
theorem flats_iff (xs : List PyData) : flats xs = true ↔ ∀ x ∈ xs, flat x = true := by
  induction xs with
  | nil => simp [flats]
  | cons x xs ih => simp [flats, ih]

/-! ## abstract values -/
/-- d: of this frame's make, may be kept and handed back; s: borrowed, stands as long as the frame; t: stands now -/
inductive Fl where
  | d
  | s
  | t
  deriving DecidableEq
structure V where
  x : PyData
  fl : Fl
/-- data without lists may be kept and handed back, wherever it came from -/
noncomputable def V.fix (x : PyData) (f : Fl) : V := ⟨x, if flat x then .d else f⟩
/-- what a variable owns and may change -/
inductive Own where
  | lst (xs : List PyData)
  | dct (kvs : List (Str × PyData))
  | tree (a : Addr) (x : PyData)
inductive VV where
  | val (v : V)
  | own (o : Own)
noncomputable abbrev Rho := String → Option VV
noncomputable def Rho.set (ρ : Rho) (x : String) (v : VV) : Rho := fun y => if y = x then some v else ρ y

/-- what a value's lists may be -/
noncomputable def FlOk (s₀ : Heap) (W : List Addr) (f : Fl) (as : List Addr) : Prop :=
  match f with
  | .d => ∀ a ∈ as, s₀.get? a = none ∧ a ∉ W
  | .s => ∀ a ∈ as, a ∉ W
  | .t => True
theorem FlOk.nil {s₀ : Heap} {W : List Addr} {f : Fl} : FlOk s₀ W f [] := by cases f <;> simp [FlOk]
theorem FlOk.mono {s₀ : Heap} {W : List Addr} {f : Fl} {as bs : List Addr} (h : FlOk s₀ W f as) (hs : ∀ a ∈ bs, a ∈ as) : FlOk s₀ W f bs := by
  cases f
  · exact fun a ha => h a (hs a ha)
  · exact fun a ha => h a (hs a ha)
  · trivial
theorem FlOk.append {s₀ : Heap} {W : List Addr} {f : Fl} {as bs : List Addr} (h : FlOk s₀ W f as) (k : FlOk s₀ W f bs) : FlOk s₀ W f (as ++ bs) := by
  cases f
  · exact fun a ha => (List.mem_append.mp ha).elim (h a) (k a)
  · exact fun a ha => (List.mem_append.mp ha).elim (h a) (k a)
  · trivial
section
variable (prog w)
noncomputable def Rep (s₀ : Heap) (W : List Addr) (h : Heap) (u : Value) (v : V) : Prop :=
  ∃ as, RD prog w h u v.x as ∧ wf v.x = true ∧ FlOk s₀ W v.fl as
inductive Reps (s₀ : Heap) (W : List Addr) (h : Heap) : List Value → List V → Prop
  | nil : Reps s₀ W h [] []
  | cons {u : Value} {v : V} {us : List Value} {vs : List V} : Rep prog w s₀ W h u v → Reps s₀ W h us vs → Reps s₀ W h (u :: us) (v :: vs)
end
section
variable {s₀ : Heap} {W : List Addr} {h h' : Heap}
theorem Rep.grow {u : Value} {v : V} (r : Rep prog w s₀ W h u v) (k : Grow h h') : Rep prog w s₀ W h' u v := by
  obtain ⟨as, r, c, f⟩ := r; exact ⟨as, r.grow k, c, f⟩
theorem Reps.grow {us : List Value} {vs : List V} (r : Reps prog w s₀ W h us vs) (k : Grow h h') : Reps prog w s₀ W h' us vs := by
  induction r with
  | nil => exact .nil
  | cons a _ ih => exact .cons (a.grow k) ih
theorem Rep.fixed {u : Value} {x : PyData} {f : Fl} {as : List Addr} (r : RD prog w h u x as) (c : wf x = true) (o : FlOk s₀ W f as) : Rep prog w s₀ W h u (V.fix x f) := by
  cases e : flat x with
  | true =>
    refine ⟨as, r, c, ?_⟩
    rw [r.flat_foot e]; exact FlOk.nil
  | false => exact ⟨as, r, c, by simpa [V.fix, e] using o⟩
theorem Rep.int {i : Int} {t : Tok} : Rep prog w s₀ W h (.int i t) ⟨.int i, .d⟩ := ⟨[], .int i t, rfl, FlOk.nil⟩
theorem Rep.bool {b : Bool} : Rep prog w s₀ W h (.bool b) ⟨.bool b, .d⟩ := ⟨[], .bool b, rfl, FlOk.nil⟩
theorem Rep.none : Rep prog w s₀ W h .none ⟨.none, .d⟩ := ⟨[], .none, rfl, FlOk.nil⟩
theorem Rep.str {x : Str} {t : Tok} (hx : wf (.str x) = true) : Rep prog w s₀ W h (.str x t) ⟨.str x, .d⟩ := ⟨[], .str x t, hx, FlOk.nil⟩
end

section
variable (prog w)
/-- an owned thing in the heap, with its addresses -/
inductive RepO (s₀ : Heap) (W : List Addr) (h : Heap) : Value → Own → List Addr → Prop
  | lst {a : Addr} {vs : List Value} {n : Nat} {xs : List PyData} {as : List Addr} : h.get? a = some (lstObj vs n) → RDs prog w h vs xs as → wf (.list xs) = true →
      FlOk s₀ W .d as → RepO s₀ W h (.ref a) (.lst xs) [a]
  | dct {a : Addr} {kvs : List (Str × Value)} {xs : List (Str × PyData)} {as : List Addr} : h.DictOf (strKind prog w) a kvs → (a == sysModules) = false → kvs.map (·.1) = xs.map (·.1) → RDs prog w h (kvs.map (·.2)) (xs.map (·.2)) as →
      wf (dictOf xs) = true → FlOk s₀ W .d as → RepO s₀ W h (.ref a) (.dct xs) [a]
  | tree {a : Addr} {x : PyData} {as : List Addr} : RD prog w h (.ref a) x as → as.Nodup → wf x = true → RepO s₀ W h (.ref a) (.tree a x) as

noncomputable def RepVV (s₀ : Heap) (W : List Addr) (O : List (String × List Addr)) (h : Heap) (x : String) (u : Value) : VV → Prop
  | .val v => (v.fl = .d ∨ v.fl = .s) ∧ Rep prog w s₀ W h u v
  | .own o => ∃ sp, O.lookup x = some sp ∧ RepO prog w s₀ W h u o sp

/-- the law's start: its heap stands, and no recursion limit was set -/
structure Base (hb h : Heap) : Prop where
  lim : hb.NoLimit
  seer : hb.NoSeer
  tree : prog.given.tree = none
  mods : ∃ o, hb.get? sysModules = some o
  grow : Grow hb h
variable {prog} in
theorem Base.trans {hb h h' : Heap} (b : Base prog hb h) (k : Grow h h') : Base prog hb h' := ⟨b.lim, b.seer, b.tree, b.mods, b.grow.trans k⟩
variable {prog} in
theorem Base.nolimit {hb h : Heap} (b : Base prog hb h) : h.NoLimit := b.lim.keeps b.grow
variable {prog} in
theorem Base.noseer {hb h : Heap} (b : Base prog hb h) : h.NoSeer := b.seer.keeps b.grow
/-- the addresses that a frame may write -/
noncomputable def WW (env : Env) (C : List Addr) (O : List (String × List Addr)) : List Addr := env.locals :: (C ++ O.flatMap (·.2))

/-- a frame at work. hb: the heap at the law's own start; s₀: at the frame's start; X: what is handed in to be changed; C: the frame's own cells; O: what its variables own -/
structure InF (hb : Heap) (s₀ : Shared) (X : List Addr) (env : Env) (C : List Addr) (ρ : Rho) (O : List (String × List Addr)) (s : Shared) : Prop where
  same : ∃ h tk, s = { s₀ with heap := h, toks := tk }
  base : Base prog hb s.heap
  keep : ∀ b o, s₀.heap.get? b = some o → b ∉ X → s.heap.get? b = some o
  alive : ∀ b o, s₀.heap.get? b = some o → ∃ o', s.heap.get? b = some o'
  walive : ∀ a ∈ WW env C O, ∃ o, s.heap.get? a = some o ∧ ¬ Tup o
  wfresh : ∀ a ∈ WW env C O, hb.get? a = none ∧ (a ∉ X → s₀.heap.get? a = none)
  wnodup : (WW env C O).Nodup
  kind : env.scope.kind = .function
  glob : env.globals = mainGlobals
  bult : env.builtins = builtinsNs
  clk : ∀ x, env.kindOf x = some .cell → ∃ c, env.cells.lookup x = some c
  ns : ∃ m, s.heap.Ns env.locals m ∧ ∀ x vv, ρ x = some vv → env.kindOf (Str.ofString x) = some .local → ∃ u, m (Str.ofString x) = some u ∧ RepVV prog w s₀.heap (WW env C O) O s.heap x u vv
  cell : ∀ x vv, ρ x = some vv → env.kindOf (Str.ofString x) = some .cell → ∃ c u, env.cells.lookup (Str.ofString x) = some c ∧ s.heap.IsCell c (some u) ∧ RepVV prog w s₀.heap (WW env C O) O s.heap x u vv
end

/-- a def's frame: its cells are its own -/
structure InS (prog : Program) (w : World) (hb : Heap) (s₀ : Shared) (X : List Addr) (env : Env) (C : List Addr) (ρ : Rho) (O : List (String × List Addr)) (s : Shared) : Prop extends InF prog w hb s₀ X env C ρ O s where
  fc : ∀ x, env.kindOf (Str.ofString x) = some .cell → ∃ c, env.cells.lookup (Str.ofString x) = some c ∧ c ∈ C
  finj : ∀ x y c, env.cells.lookup x = some c → env.cells.lookup y = some c → x = y
  cello : ∀ x c, env.cells.lookup x = some c → c ∈ C ∧ ∃ v, s.heap.IsCell c v
theorem RepO.grow {s₀ : Heap} {W : List Addr} {h h' : Heap} {u : Value} {o : Own} {sp : List Addr} (r : RepO prog w s₀ W h u o sp) (k : Grow h h') : RepO prog w s₀ W h' u o sp := by
  cases r with
  | lst a b c d => exact .lst (k _ _ a) (b.grow k) c d
  | dct a g e b c d =>
    obtain ⟨o, es, ep, ho, r⟩ := a
    exact .dct ⟨o, es, ep, k _ _ ho, r⟩ g e (b.grow k) c d
  | tree a b c => exact .tree (a.grow k) b c
theorem RepVV.grow {s₀ : Heap} {W : List Addr} {O : List (String × List Addr)} {h h' : Heap} {x : String} {u : Value} {v : VV} (r : RepVV prog w s₀ W O h x u v) (k : Grow h h') : RepVV prog w s₀ W O h' x u v := by
  cases v with
  | val v => exact ⟨r.1, r.2.grow k⟩
  | own o => obtain ⟨sp, a, b⟩ := r; exact ⟨sp, a, b.grow k⟩
theorem isCell_grow {h h' : Heap} {c : Addr} {v : Option Value} (x : h.IsCell c v) (k : Grow h h') : h'.IsCell c v := by
  obtain ⟨o, ho, r⟩ := x; exact ⟨o, k _ _ ho, r⟩
section
variable {hb : Heap} {s₀ s s' : Shared} {X : List Addr} {env : Env} {C : List Addr} {ρ : Rho} {O : List (String × List Addr)}
theorem InF.grow (I : InF prog w hb s₀ X env C ρ O s) (k : Keeps s s') : InF prog w hb s₀ X env C ρ O s' := by
  obtain ⟨h', tk, rfl, k⟩ := k
  obtain ⟨⟨h, t, rfl⟩, i2, i3, i4, i5, i6, i7, i8, i8a, i8b, i8c, i9, i10⟩ := I
  refine ⟨⟨h', tk, rfl⟩, i2.trans k, fun b o e x => k _ _ (i3 b o e x), fun b o e => ?_, fun a ha => ?_, i6, i7, i8, i8a, i8b, i8c, ?_, ?_⟩
  · obtain ⟨o', e'⟩ := i4 b o e; exact ⟨o', k _ _ e'⟩
  · obtain ⟨o, e, c⟩ := i5 a ha; exact ⟨o, k _ _ e, c⟩
  · obtain ⟨m, hm, hv⟩ := i9
    refine ⟨m, hm.keeps k, fun x vv e1 e2 => ?_⟩
    obtain ⟨u, a, b⟩ := hv x vv e1 e2
    exact ⟨u, a, b.grow k⟩
  · intro x vv e1 e2
    obtain ⟨c, u, a, b, d⟩ := i10 x vv e1 e2
    exact ⟨c, u, a, isCell_grow b k, d.grow k⟩
theorem InS.grow (I : InS prog w hb s₀ X env C ρ O s) (k : Keeps s s') : InS prog w hb s₀ X env C ρ O s' :=
  ⟨I.toInF.grow k, I.fc, I.finj, fun x c hc => let ⟨q, v, h⟩ := I.cello x c hc; ⟨q, v, isCell_grow h (keeps_grow k)⟩⟩
/-- what is not alive yet is fresh for the frame -/
theorem InF.fresh (I : InF prog w hb s₀ X env C ρ O s) {a : Addr} (h : s.heap.get? a = none) : s₀.heap.get? a = none ∧ a ∉ WW env C O := by
  constructor
  · cases e : s₀.heap.get? a with
    | none => rfl
    | some o => obtain ⟨o', e'⟩ := I.alive a o e; rw [h] at e'; cases e'
  · intro hm
    obtain ⟨o, e, _⟩ := I.walive a hm
    rw [h] at e; cases e
theorem InF.size_fresh (I : InF prog w hb s₀ X env C ρ O s) : s₀.heap.get? s.heap.objs.size = none ∧ s.heap.objs.size ∉ WW env C O := I.fresh (get?_size_none _ (Nat.le_refl _))
end

/-- room around -/
structure Room (A : Around) (n : Nat) : Prop where
  handled : A.handled = none
  depth : A.depth + n + 100 < recursionLimit
  units : A.units + 8 * n + 100 < cLine
  frames : ∃ l, A.frames = some l
structure PlainEnv (env : Env) : Prop where
  gen : env.scope.isGenerator = false
  co : env.scope.isCoroutine = false
  bult : env.builtins = builtinsNs
  glob : env.globals = mainGlobals
/-- room inside a frame -/
structure RoomF (A : Around) (n : Nat) : Prop extends Room A n where
  top : ∃ env l, A.frames = some (env :: l) ∧ PlainEnv env
theorem Room.mono {A : Around} {m n : Nat} (h : Room A n) (hm : m ≤ n) : Room A m := ⟨h.handled, by have := h.depth; omega, by have := h.units; omega, h.frames⟩
theorem RoomF.mono {A : Around} {m n : Nat} (h : RoomF A n) (hm : m ≤ n) : RoomF A m := ⟨h.toRoom.mono hm, h.top⟩
theorem Room.deeper {A : Around} {n : Nat} {env : Env} (h : Room A (n + 1)) (p : PlainEnv env) : RoomF (A.deeper env) n := by
  obtain ⟨l, hl⟩ := h.frames
  refine ⟨⟨h.handled, (by show A.depth + 1 + n + 100 < _; have := h.depth; omega), (by show A.units + 3 + 8 * n + 100 < _; have := h.units; omega), ⟨env :: l, ?_⟩⟩, ⟨env, l, ?_, p⟩⟩ <;> (show A.frames.map _ = _; rw [hl]; rfl)
theorem RoomF.pylong {A : Around} {n : Nat} {s : Shared} {hb : Heap} (h : RoomF A n) (b : Base prog hb s.heap) : PylongRoom (model prog w) A s := by
  obtain ⟨env, l, hf, p⟩ := h.top
  exact PylongRoom.of b.nolimit (by have := h.depth; show A.depth + 100 < _; omega) (SeerAt.of b.noseer b.tree hf p.gen p.co p.bult p.glob)

/-! ## the judgements -/
section
variable (prog : Program) (w : World) (hb : Heap)
/-- an expression -/
noncomputable def Ev (n : Nat) (sc : Scope) (e : Expr) (m : Rho → Option V) : Prop :=
  ∀ ⦃A : Around⦄ ⦃env : Env⦄ ⦃s₀ : Shared⦄ ⦃X C : List Addr⦄ ⦃ρ : Rho⦄ ⦃O : List (String × List Addr)⦄ ⦃s : Shared⦄ ⦃v : V⦄ ⦃Q : Value → Shared → Prop⦄ ⦃E : Value → Shared → Prop⦄,
    env.scope = sc → RoomF A n → InF prog w hb s₀ X env C ρ O s → m ρ = some v → (∀ u s', Keeps s s' → Rep prog w s₀.heap (WW env C O) s'.heap u v → Q u s') → wpAny (model prog w) A (eval e env) Q E s
/-- a test -/
noncomputable def Tr (n : Nat) (sc : Scope) (e : Expr) (m : Rho → Option Bool) : Prop :=
  ∀ ⦃A : Around⦄ ⦃env : Env⦄ ⦃s₀ : Shared⦄ ⦃X C : List Addr⦄ ⦃ρ : Rho⦄ ⦃O : List (String × List Addr)⦄ ⦃s : Shared⦄ ⦃v : Bool⦄ ⦃Q : Bool → Shared → Prop⦄ ⦃E : Value → Shared → Prop⦄,
    env.scope = sc → RoomF A n → InF prog w hb s₀ X env C ρ O s → m ρ = some v → (∀ s', Keeps s s' → Q v s') → wpAny (model prog w) A (isTrue e env (eval e env)) Q E s
/-- expressions, one behind the other (arguments, items) -/
noncomputable def Evs (n : Nat) (sc : Scope) (es : List Expr) (m : Rho → Option (List V)) : Prop :=
  ∀ ⦃A : Around⦄ ⦃env : Env⦄ ⦃s₀ : Shared⦄ ⦃X C : List Addr⦄ ⦃ρ : Rho⦄ ⦃O : List (String × List Addr)⦄ ⦃s : Shared⦄ ⦃vs : List V⦄ ⦃pos : Pos⦄ ⦃Q : List Value → Shared → Prop⦄ ⦃E : Value → Shared → Prop⦄,
    env.scope = sc → RoomF A n → InF prog w hb s₀ X env C ρ O s → m ρ = some vs → (∀ us s', Keeps s s' → Reps prog w s₀.heap (WW env C O) s'.heap us vs → Q us s') →
    wpAny (model prog w) A (spliced (backTo pos (starEach es env))) Q E s
inductive Out where
  | next (ρ : Rho)
  | brk (ρ : Rho)
  | cont (ρ : Rho)
  | ret (x : PyData)
/-- from one place of a frame to a later one: what stood and may not be written stands; what may be written anew was not there -/
structure Step (h h' : Heap) (W W' : List Addr) : Prop where
  keep : ∀ b o, h.get? b = some o → b ∉ W → h'.get? b = some o
  new : ∀ a ∈ W', a ∈ W ∨ h.get? a = none
theorem Step.of_grow {h h' : Heap} {W : List Addr} (k : Grow h h') : Step h h' W W := ⟨fun b o e _ => k b o e, fun _ h => .inl h⟩
theorem Step.refl (h : Heap) (W : List Addr) : Step h h W W := Step.of_grow (Grow.refl h)
theorem Step.trans {h h' h'' : Heap} {W W' W'' : List Addr} (x : Step h h' W W') (y : Step h' h'' W' W'') : Step h h'' W W'' := by
  refine ⟨fun b o e hb => y.keep b o (x.keep b o e hb) fun hw => ?_, fun a ha => ?_⟩
  · rcases x.new b hw with q | q
    · exact hb q
    · rw [e] at q; cases q
  · rcases y.new a ha with q | q
    · exact x.new a q
    · cases e : h.get? a with
      | none => exact .inr rfl
      | some o =>
        by_cases hw : a ∈ W
        · exact .inl hw
        · rw [x.keep a o e hw] at q; cases q
/-- how a block ends -/
noncomputable def Ends (s₀ : Shared) (X : List Addr) (env : Env) (C : List Addr) (O : List (String × List Addr)) (s : Shared) (r : Out) (Q : Flow → Shared → Prop) : Prop :=
  match r with
  | .next ρ => ∀ O' s', InS prog w hb s₀ X env C ρ O' s' → Step s.heap s'.heap (WW env C O) (WW env C O') → Q .next s'
  | .brk ρ => ∀ O' s', InS prog w hb s₀ X env C ρ O' s' → Step s.heap s'.heap (WW env C O) (WW env C O') → Q .brk s'
  | .cont ρ => ∀ O' s', InS prog w hb s₀ X env C ρ O' s' → Step s.heap s'.heap (WW env C O) (WW env C O') → Q .cont s'
  | .ret x => ∀ u as O' ρ s', InS prog w hb s₀ X env C ρ O' s' → RD prog w s'.heap u x as → wf x = true → (∀ a ∈ as, a ∈ X ∨ s₀.heap.get? a = none) → Q (.ret u) s'
variable {prog w hb} in
theorem Ends.trans {s₀ : Shared} {X : List Addr} {env : Env} {C : List Addr} {O O' : List (String × List Addr)} {s s' : Shared} {r : Out} {Q : Flow → Shared → Prop} (k : Step s.heap s'.heap (WW env C O) (WW env C O'))
    (h : Ends prog w hb s₀ X env C O s r Q) : Ends prog w hb s₀ X env C O' s' r Q := by
  cases r with
  | next ρ => exact fun O'' s'' I t => h O'' s'' I (k.trans t)
  | brk ρ => exact fun O'' s'' I t => h O'' s'' I (k.trans t)
  | cont ρ => exact fun O'' s'' I t => h O'' s'' I (k.trans t)
  | ret x => exact h
/-- statements -/
noncomputable def St (n : Nat) (sc : Scope) (ss : List Stmt) (m : Rho → Option Out) : Prop :=
  ∀ ⦃A : Around⦄ ⦃env : Env⦄ ⦃s₀ : Shared⦄ ⦃X C : List Addr⦄ ⦃ρ : Rho⦄ ⦃O : List (String × List Addr)⦄ ⦃s : Shared⦄ ⦃r : Out⦄ ⦃Q : Flow → Shared → Prop⦄ ⦃E : Value → Shared → Prop⦄,
    env.scope = sc → RoomF A n → InS prog w hb s₀ X env C ρ O s → m ρ = some r → Ends prog w hb s₀ X env C O s r Q → wpAny (model prog w) A (execs ss env) Q E s
/-- a def that changes nothing that stood before -/
noncomputable def Fn (n : Nat) (f : Addr) (m : List PyData → Option PyData) : Prop :=
  ∀ ⦃A : Around⦄ ⦃s : Shared⦄ ⦃us : List Value⦄ ⦃xs : List PyData⦄ ⦃as : List Addr⦄ ⦃y : PyData⦄ ⦃Q : Value → Shared → Prop⦄ ⦃E : Value → Shared → Prop⦄,
    Room A n → Base prog hb s.heap → RDs prog w s.heap us xs as → wfs xs = true → m xs = some y →
    (∀ u as s', Keeps s s' → RD prog w s'.heap u y as → wf y = true → (∀ a ∈ as, s.heap.get? a = none) → Q u s') → wpAny (model prog w) A (call (.ref f) us) Q E s
end
end Mine

/-! text PF2 -/
set_option autoImplicit false
namespace Mine
open PySem PySem.Calls
variable {prog : Program} {w : World} {hb : Heap} {n : Nat} {sc : Scope}

/-! ## names, constants -/
noncomputable def isVar (sc : Scope) (x : String) : Bool := (decide (sc.names.lookup (Str.ofString x) = some .local) || decide (sc.names.lookup (Str.ofString x) = some .cell)) && !(Str.ofString x == ("__debug__" : Str))
noncomputable def rdVar : VV → Option V
  | .val v => some v
  | .own (.lst xs) => some ⟨.list xs, .t⟩
  | .own (.dct kvs) => some ⟨dictOf kvs, .t⟩
  | .own (.tree _ x) => some ⟨x, .t⟩
theorem RepVV.rd {s₀ : Heap} {W : List Addr} {O : List (String × List Addr)} {h : Heap} {x : String} {u : Value} {vv : VV} {v : V} (r : RepVV prog w s₀ W O h x u vv) (e : rdVar vv = some v) : Rep prog w s₀ W h u v := by
  cases vv with
  | val v' => cases e; exact r.2
  | own o =>
    obtain ⟨sp, _, r⟩ := r
    cases r with
    | lst a b c d => cases e; exact ⟨_, .list a b, c, trivial⟩
    | dct a g b c d => cases e; exact ⟨_, .dict a g b c, d, trivial⟩
    | tree a b c => cases e; exact ⟨_, a, c, trivial⟩
theorem Ev.var {x : String} {pos : Pos} (hv : isVar sc x = true) : Ev prog w hb n sc (.Name (Str.ofString x) pos) (fun ρ => (ρ x).bind rdVar) := by
  intro A env s₀ X C ρ O s v Q E hs hr I hm hQ
  subst hs
  obtain ⟨vv, e1, e2⟩ := Option.bind_eq_some_iff.mp hm
  simp only [isVar, Bool.and_eq_true, Bool.or_eq_true, decide_eq_true_eq, Bool.not_eq_true'] at hv
  obtain ⟨hv, hd⟩ := hv
  rcases hv with hv | hv
  · obtain ⟨m, hns, hx⟩ := I.ns
    obtain ⟨u, hu, r⟩ := hx x vv e1 hv
    exact wpAny_Name (wpAny_loadName_local I.kind hv hns hu (hQ u s (keeps_refl s) (r.rd e2))) hd
  · obtain ⟨c, u, hc, hu, r⟩ := I.cell x vv e1 hv
    exact wpAny_Name (wpAny_loadName_cell I.kind hv hc hu (hQ u s (keeps_refl s) (r.rd e2))) hd
theorem Ev.cint {i : Int} {k : Nat} {pos : Pos} : Ev prog w hb n sc (.Constant (.int i) k pos) (fun _ => some ⟨.int i, .d⟩) := by
  intro A env s₀ X C ρ O s v Q E hs hr I hm hQ
  cases hm
  exact wpAny_Constant_int (hQ _ _ (keeps_toks s _) Rep.int)
theorem Ev.cnone {k : Nat} {pos : Pos} : Ev prog w hb n sc (.Constant .none k pos) (fun _ => some ⟨.none, .d⟩) := by
  intro A env s₀ X C ρ O s v Q E hs hr I hm hQ
  cases hm
  exact wpAny_Constant_none (hQ _ _ (keeps_refl s) Rep.none)
theorem Ev.cbool {b : Bool} {k : Nat} {pos : Pos} : Ev prog w hb n sc (.Constant (.bool b) k pos) (fun _ => some ⟨.bool b, .d⟩) := by
  intro A env s₀ X C ρ O s v Q E hs hr I hm hQ
  cases hm
  exact wpAny_Constant_bool (hQ _ _ (keeps_refl s) Rep.bool)
theorem Ev.cstr {x : Str} {k : Nat} {pos : Pos} (hx : wf (.str x) = true) : Ev prog w hb n sc (.Constant (.str x) k pos) (fun _ => some ⟨.str x, .d⟩) := by
  intro A env s₀ X C ρ O s v Q E hs hr I hm hQ
  cases hm
  exact wpAny_Constant_str (hQ _ _ (keeps_toks s _) (Rep.str hx))

/-! ## operators -/
noncomputable def smallInt (a : Int) : Bool := decide (Builtin.Int.intBits a ≤ 64)
noncomputable def addD : PyData → PyData → Option PyData
  | .int a, .int b => some (.int (a + b))
  | .str x, .str y => if x.length + y.length ≤ sizeLine then some (.str (x ++ y)) else none
  | .list xs, .list ys => if xs.length + ys.length ≤ sizeLine then some (.list (xs ++ ys)) else none
  | _, _ => none
noncomputable def mulD : PyData → PyData → Option PyData
  | .int a, .int b => if smallInt a || smallInt b then some (.int (a * b)) else none
  | .str x, .int k => if k = 0 then some (.str Str.empty) else if k = 1 then some (.str x) else none
  | _, _ => none
noncomputable def intsD (f : Int → Int → Option Int) : PyData → PyData → Option PyData
  | .int a, .int b => (f a b).map .int
  | _, _ => none
noncomputable def aBin (op : Operator) (x y : PyData) : Option PyData := match op with
  | .Add => addD x y
  | .Sub => intsD (fun a b => some (a - b)) x y
  | .Mult => mulD x y
  | .FloorDiv => intsD (fun a b => if b = 0 then none else some (a.fdiv b)) x y
  | .Mod => intsD (fun a b => if b = 0 then none else some (a.fmod b)) x y
  | _ => none
theorem intsD_some {f : Int → Int → Option Int} {x y z : PyData} (h : intsD f x y = some z) : ∃ a b c, x = .int a ∧ y = .int b ∧ f a b = some c ∧ z = .int c := by
  cases x with
  | int a => cases y with
    | int b => obtain ⟨c, h1, h2⟩ := Option.map_eq_some_iff.mp h; exact ⟨a, b, c, rfl, rfl, h1, h2.symm⟩
    | _ => cases h
  | _ => cases h
theorem addD_some {x y z : PyData} (h : addD x y = some z) : (∃ a b, x = .int a ∧ y = .int b ∧ z = .int (a + b)) ∨ (∃ a b, x = .str a ∧ y = .str b ∧ a.length + b.length ≤ sizeLine ∧ z = .str (a ++ b)) ∨
    (∃ a b, x = .list a ∧ y = .list b ∧ a.length + b.length ≤ sizeLine ∧ z = .list (a ++ b)) := by
  cases x with
  | int a => cases y with
    | int b => cases h; exact .inl ⟨a, b, rfl, rfl, rfl⟩
    | _ => cases h
  | str a => cases y with
    | str b =>
      change (if a.length + b.length ≤ sizeLine then some (PyData.str (a ++ b)) else none) = some z at h
      split at h
      · rename_i hz; cases h; exact .inr (.inl ⟨a, b, rfl, rfl, hz, rfl⟩)
      · cases h
    | _ => cases h
  | list a => cases y with
    | list b =>
      change (if a.length + b.length ≤ sizeLine then some (PyData.list (a ++ b)) else none) = some z at h
      split at h
      · rename_i hz; cases h; exact .inr (.inr ⟨a, b, rfl, rfl, hz, rfl⟩)
      · cases h
    | _ => cases h
  | _ => cases h
theorem mulD_some {x y z : PyData} (h : mulD x y = some z) : (∃ a b, x = .int a ∧ y = .int b ∧ (smallInt a || smallInt b) = true ∧ z = .int (a * b)) ∨ (∃ a, x = .str a ∧ y = .int 0 ∧ z = .str Str.empty) ∨ (∃ a, x = .str a ∧ y = .int 1 ∧ z = .str a) := by
  cases x with
  | int a => cases y with
    | int b =>
      change (if smallInt a || smallInt b then some (PyData.int (a * b)) else none) = some z at h
      split at h
      · rename_i hz; cases h; exact .inl ⟨a, b, rfl, rfl, hz, rfl⟩
      · cases h
    | _ => cases h
  | str a => cases y with
    | int k =>
      change (if k = 0 then some (PyData.str Str.empty) else if k = 1 then some (.str a) else none) = some z at h
      split at h
      · rename_i hk; cases h; exact .inr (.inl ⟨a, rfl, by rw [hk], rfl⟩)
      · split at h
        · rename_i hk; cases h; exact .inr (.inr ⟨a, rfl, by rw [hk], rfl⟩)
        · cases h
    | _ => cases h
  | _ => cases h
noncomputable def Fl.join : Fl → Fl → Fl
  | .d, .d => .d
  | .t, _ => .t
  | _, .t => .t
  | _, _ => .s
/-- a list of this moment's make -/
noncomputable def V.newL (xs : List PyData) (f : Fl) : V := ⟨.list xs, if flats xs then .d else f⟩
noncomputable def aBinV (op : Operator) (a b : V) : Option V :=
  (aBin op a.x b.x).map fun x => match x with
    | .list xs => V.newL xs (a.fl.join b.fl)
    | x => ⟨x, .d⟩
theorem FlOk.join_l {s₀ : Heap} {W : List Addr} {f g : Fl} {as : List Addr} (h : FlOk s₀ W f as) : FlOk s₀ W (f.join g) as := by
  cases f <;> cases g <;> first | exact h | trivial | exact fun a ha => (h a ha).2
theorem FlOk.join_r {s₀ : Heap} {W : List Addr} {f g : Fl} {as : List Addr} (h : FlOk s₀ W g as) : FlOk s₀ W (f.join g) as := by
  cases f <;> cases g <;> first | exact h | trivial | exact fun a ha => (h a ha).2
section
variable {A : Around} {env : Env} {s₀ : Shared} {X C : List Addr} {ρ : Rho} {O : List (String × List Addr)} {s : Shared} {E : Value → Shared → Prop}
/-- a new list on the heap -/
theorem InF.newL (I : InF prog w hb s₀ X env C ρ O s) {vs : List Value} {xs : List PyData} {as : List Addr} {f : Fl} (r : RDs prog w s.heap vs xs as) (c : wf (.list xs) = true) (o : FlOk s₀.heap (WW env C O) f as) {m : Nat} :
    Rep prog w s₀.heap (WW env C O) (s.heap.push (lstObj vs m)) (.ref s.heap.objs.size) (V.newL xs f) := by
  have k := Grow.push s.heap (lstObj vs m)
  refine ⟨s.heap.objs.size :: as, .list (Heap.get?_push_size _ rfl) (r.grow k), c, ?_⟩
  have z := I.size_fresh
  cases e : flats xs with
  | true =>
    rw [r.flat_foot e]
    simp only [V.newL, e, if_true]
    intro a ha
    rw [List.mem_singleton.mp ha]; exact z
  | false =>
    simp only [V.newL, e, Bool.false_eq_true, if_false]
    cases f with
    | d => exact fun a ha => (List.mem_cons.mp ha).elim (fun q => q ▸ z) (o a)
    | s => exact fun a ha => (List.mem_cons.mp ha).elim (fun q => q ▸ z.2) (o a)
    | t => trivial
theorem InF.newT (I : InF prog w hb s₀ X env C ρ O s) {vs : List Value} {xs : List PyData} {as : List Addr} {f : Fl} (r : RDs prog w s.heap vs xs as) (c : wf (.tuple xs) = true) (o : FlOk s₀.heap (WW env C O) f as) {m : Nat} :
    Rep prog w s₀.heap (WW env C O) (s.heap.push (tupObj vs m)) (.ref s.heap.objs.size) (V.fix (.tuple xs) f) :=
  let _ := I
  Rep.fixed (.tuple (Heap.get?_push_size _ rfl) (r.grow (Grow.push s.heap (tupObj vs m)))) c o
theorem strOk_append {x y : Str} (hx : PyData.strOk x = true) (hy : PyData.strOk y = true) : PyData.strOk (x ++ y) = true := by
  unfold PyData.strOk at *
  rw [Str.cps_append, Array.all_append, hx, hy]; rfl
theorem str_empty_of {x : Str} (h : (x.length == 0) = true) : x = Str.empty := by
  obtain ⟨c⟩ := x
  have : c = #[] := by simpa [Str.length] using h
  rw [this]; rfl
theorem wf_str {x : Str} : wf (.str x) = true ↔ PyData.strOk x = true ∧ x.length ≤ sizeLine := by simp [wf]
theorem wf_list {xs : List PyData} : wf (.list xs) = true ↔ xs.length ≤ sizeLine ∧ wfs xs = true := by simp [wf]
theorem wf_tuple {xs : List PyData} : wf (.tuple xs) = true ↔ xs.length ≤ sizeLine ∧ wfs xs = true := by simp [wf]
theorem wf_empty : wf (.str Str.empty) = true := by decide +kernel
theorem made_str_append {x y : Str} {t u : Tok} {Q : Value → Shared → Prop} (hz : x.length + y.length ≤ sizeLine) (h : ∀ v tk, v = .str (x ++ y) tk → ∀ s', Keeps s s' → Q v s') :
    (if x.length == 0 then Made.val (.str y u) else if y.length == 0 then Made.val (.str x t) else Made.str (x ++ y)).post Q s := by
  split
  · rename_i e
    have : x ++ y = y := by rw [str_empty_of e, Str.empty_append]
    rw [← this]
    exact h _ _ rfl _ (keeps_refl s)
  · split
    · rename_i e
      have : x ++ y = x := by rw [str_empty_of e, Str.append_empty]
      rw [← this]
      exact h _ _ rfl _ (keeps_refl s)
    · exact ⟨by rw [Str.length_append]; exact hz, h _ _ rfl _ (keeps_toks s _)⟩
theorem bin_ok {op : Operator} {a b v : V} {u₁ u₂ : Value} {Q : Value → Shared → Prop} (hr : RoomF A n) (I : InF prog w hb s₀ X env C ρ O s) (h : aBinV op a b = some v)
    (r₁ : Rep prog w s₀.heap (WW env C O) s.heap u₁ a) (r₂ : Rep prog w s₀.heap (WW env C O) s.heap u₂ b) (hQ : ∀ u s', Keeps s s' → Rep prog w s₀.heap (WW env C O) s'.heap u v → Q u s') :
    wpAny (model prog w) A (binaryOp op u₁ u₂) Q E s := by
  obtain ⟨x, hx, hv⟩ := Option.map_eq_some_iff.mp h
  obtain ⟨ax, af⟩ := a
  obtain ⟨bx, bf⟩ := b
  obtain ⟨as, ra, ca, oa⟩ := r₁
  obtain ⟨bs, rb, cb, ob⟩ := r₂
  dsimp only at hx ra rb ca cb oa ob hv
  clear h
  have hi : ∀ {c : Int}, x = .int c → ∀ s', Keeps s s' → ∀ t, Q (.int c t) s' := by
    rintro c rfl s' k t
    cases hv
    exact hQ _ _ k Rep.int
  cases op with
  | Add =>
    rcases addD_some hx with ⟨a, b, rfl, rfl, e⟩ | ⟨a, b, rfl, rfl, hz, rfl⟩ | ⟨a, b, rfl, rfl, hz, rfl⟩
    · obtain ⟨t, rfl⟩ := ra.int_inv
      obtain ⟨t', rfl⟩ := rb.int_inv
      exact P.add_int (hi e _ (keeps_toks s _) _)
    · obtain ⟨t, rfl⟩ := ra.str_inv
      obtain ⟨t', rfl⟩ := rb.str_inv
      cases hv
      rw [wf_str] at ca cb
      refine P.add_str (made_str_append hz fun v tk e s' k => ?_)
      subst e
      exact hQ _ _ k (Rep.str (wf_str.mpr ⟨strOk_append ca.1 cb.1, by rw [Str.length_append]; exact hz⟩))
    · obtain ⟨d, us, m, cs, rfl, rfl, a1, a2⟩ := ra.list_inv
      obtain ⟨d', us', m', cs', rfl, rfl, b1, b2⟩ := rb.list_inv
      cases hv
      rw [wf_list] at ca cb
      refine P.add_list a1 b1 ?_ (by simpa [a2.length, b2.length] using hz)
      rw [List.append_toArray]
      refine hQ _ _ (keeps_push s _) (I.newL (a2.append b2) (wf_list.mpr ⟨by simpa using hz, by rw [wfs_append, ca.2, cb.2]; rfl⟩) ?_)
      exact FlOk.append ((oa.mono fun a h => .tail _ h).join_l) ((ob.mono fun a h => .tail _ h).join_r)
  | Sub =>
    obtain ⟨a, b, c, rfl, rfl, e, e'⟩ := intsD_some hx
    cases e
    obtain ⟨t, rfl⟩ := ra.int_inv
    obtain ⟨t', rfl⟩ := rb.int_inv
    exact P.sub_int (hi e' _ (keeps_toks s _) _)
  | Mult =>
    rcases mulD_some hx with ⟨a, b, rfl, rfl, hs, e⟩ | ⟨a, rfl, rfl, rfl⟩ | ⟨a, rfl, rfl, rfl⟩
    · obtain ⟨t, rfl⟩ := ra.int_inv
      obtain ⟨t', rfl⟩ := rb.int_inv
      refine P.mul_int (hi e _ (keeps_toks s _) _) ?_
      simp only [smallInt, Bool.or_eq_true, decide_eq_true_eq] at hs
      exact hs.elim IntMulOk.of_left IntMulOk.of_right
    · obtain ⟨t, rfl⟩ := ra.str_inv
      obtain ⟨t', rfl⟩ := rb.int_inv
      cases hv
      exact P.mul_str_none (by omega) (by omega) (hQ _ _ (keeps_toks s _) (Rep.str wf_empty))
    · obtain ⟨t, rfl⟩ := ra.str_inv
      obtain ⟨t', rfl⟩ := rb.int_inv
      cases hv
      refine P.mul_str (by decide) (fun _ e => by simp at e) (fun _ e => by simp at e) ?_
      exact hQ _ _ (keeps_refl s) (Rep.str ca)
  | FloorDiv =>
    obtain ⟨a, b, c, rfl, rfl, e, e'⟩ := intsD_some hx
    obtain ⟨t, rfl⟩ := ra.int_inv
    obtain ⟨t', rfl⟩ := rb.int_inv
    split at e
    · cases e
    · rename_i hz
      cases e
      exact PyProof.Rows.floordiv_int hz (hi e' _ (keeps_toks s _) _) (.inr (hr.pylong I.base))
  | Mod =>
    obtain ⟨a, b, c, rfl, rfl, e, e'⟩ := intsD_some hx
    obtain ⟨t, rfl⟩ := ra.int_inv
    obtain ⟨t', rfl⟩ := rb.int_inv
    split at e
    · cases e
    · rename_i hz
      cases e
      exact PyProof.Rows.mod_int' hz (hi e' _ (keeps_toks s _) _)
  | _ => cases hx

/-! ## truth, comparison -/
noncomputable def aTruth : PyData → Option Bool
  | .none => some false
  | .bool b => some b
  | .int i => some (i != 0)
  | .str x => some ((x.length : Int) != 0)
  | .list xs => some (!xs.isEmpty)
  | _ => none
theorem sizeLine_small : (sizeLine : Int) < 2 ^ 63 := by decide
theorem isEmpty_len {α β : Type} {xs : List α} {ys : List β} (h : xs.length = ys.length) : xs.isEmpty = ys.isEmpty := by
  cases xs <;> cases ys <;> simp_all
theorem truth_ok {a : V} {b : Bool} {u : Value} {Q : Bool → Shared → Prop} {W : List Addr} {s₀ : Heap} (h : aTruth a.x = some b) (r : Rep prog w s₀ W s.heap u a) (hQ : ∀ s', Keeps s s' → Q b s') :
    wpAny (model prog w) A (truthy u) Q E s := by
  obtain ⟨ax, af⟩ := a
  obtain ⟨as, ra, ca, oa⟩ := r
  dsimp only at h ra ca oa
  cases ax with
  | none => cases h; cases ra.none_inv; exact fun _ _ _ => hQ _ (keeps_refl s)
  | bool b => cases h; cases ra.bool_inv; exact wpAny_truthy_bool (hQ _ (keeps_refl s))
  | int i => cases h; obtain ⟨t, rfl⟩ := ra.int_inv; exact P.truthy_int (hQ _ (keeps_refl s))
  | str x =>
    cases h
    obtain ⟨t, rfl⟩ := ra.str_inv
    rw [wf_str] at ca
    exact P.truthy_str (by have := sizeLine_small; have := ca.2; omega) (hQ _ (keeps_toks s _))
  | list xs =>
    cases h
    obtain ⟨d, us, m, cs, rfl, rfl, a1, a2⟩ := ra.list_inv
    rw [wf_list] at ca
    have hl := a2.length
    refine wpAny_truthy_list ⟨_, a1, rfl, _, rfl⟩ (by have := sizeLine_small; have := ca.1; simp; omega) ?_
    rw [List.isEmpty_toArray, isEmpty_len hl]
    exact hQ _ (keeps_toks s _)
  | _ => cases h
noncomputable def isNone : PyData → Bool
  | .none => true
  | _ => false
noncomputable def hasKey (k : Str) : List (PyData × PyData) → Bool
  | [] => false
  | (.str x, _) :: r => decide (x = k) || hasKey k r
  | _ :: r => hasKey k r
noncomputable def cmpI (f : Int → Int → Bool) : PyData → PyData → Option Bool
  | .int a, .int b => some (f a b)
  | _, _ => none
noncomputable def cmpE (x y : PyData) : Option Bool := if nd x && nd y && decide (min x.depth y.depth ≤ 60) then some (PyData.eqv x y) else none
noncomputable def cmpN (x y : PyData) : Option Bool := match y with
  | .none => some (isNone x)
  | _ => none
noncomputable def inSeq (x : PyData) (ys : List PyData) : Option Bool := if nd x && nds ys && decide (min (PyData.depthAll ys) x.depth ≤ 60) then some (ys.any fun y => PyData.eqv y x) else none
noncomputable def keyOf : PyData → Option Str
  | .str k => some k
  | _ => none
noncomputable def cmpIn (x y : PyData) : Option Bool := match y with
  | .list ys => inSeq x ys
  | .tuple ys => inSeq x ys
  | .dict kvs => (keyOf x).map fun k => hasKey k kvs
  | .str s => (keyOf x).map fun k => !(Builtin.Str.occurrences s k 0 s.length 1).isEmpty
  | _ => none
noncomputable def aCmp (op : CmpOp) (x y : PyData) : Option Bool := match op with
  | .Lt => cmpI (fun a b => decide (a < b)) x y
  | .LtE => cmpI (fun a b => decide (a ≤ b)) x y
  | .Gt => cmpI (fun a b => decide (a > b)) x y
  | .GtE => cmpI (fun a b => decide (a ≥ b)) x y
  | .Eq => cmpE x y
  | .NotEq => (cmpE x y).map (!·)
  | .Is => cmpN x y
  | .IsNot => (cmpN x y).map (!·)
  | .In => cmpIn x y
  | .NotIn => (cmpIn x y).map (!·)
theorem cmpI_some {f : Int → Int → Bool} {x y : PyData} {c : Bool} (h : cmpI f x y = some c) : ∃ a b, x = .int a ∧ y = .int b ∧ f a b = c := by
  cases x with
  | int a => cases y with
    | int b => exact ⟨a, b, rfl, rfl, Option.some.inj h⟩
    | _ => cases h
  | _ => cases h
theorem cmpE_some {x y : PyData} {c : Bool} (h : cmpE x y = some c) : nd x = true ∧ nd y = true ∧ min x.depth y.depth ≤ 60 ∧ c = PyData.eqv x y := by
  unfold cmpE at h
  split at h
  · rename_i hc
    simp only [Bool.and_eq_true, decide_eq_true_eq] at hc
    exact ⟨hc.1.1, hc.1.2, hc.2, (Option.some.inj h).symm⟩
  · cases h
theorem cmpN_some {x y : PyData} {c : Bool} (h : cmpN x y = some c) : y = .none ∧ c = isNone x := by
  cases y with
  | none => exact ⟨rfl, (Option.some.inj h).symm⟩
  | _ => cases h
theorem inSeq_some {x : PyData} {ys : List PyData} {c : Bool} (h : inSeq x ys = some c) : nd x = true ∧ nds ys = true ∧ min (PyData.depthAll ys) x.depth ≤ 60 ∧ c = ys.any fun y => PyData.eqv y x := by
  unfold inSeq at h
  split at h
  · rename_i hc
    simp only [Bool.and_eq_true, decide_eq_true_eq] at hc
    exact ⟨hc.1.1, hc.1.2, hc.2, (Option.some.inj h).symm⟩
  · cases h
theorem keyOf_some {x : PyData} {k : Str} (h : keyOf x = some k) : x = .str k := by
  cases x with
  | str s => cases h; rfl
  | _ => cases h
theorem cmpIn_some {x y : PyData} {c : Bool} (h : cmpIn x y = some c) : (∃ ys, y = .list ys ∧ inSeq x ys = some c) ∨ (∃ ys, y = .tuple ys ∧ inSeq x ys = some c) ∨ (∃ k kvs, x = .str k ∧ y = .dict kvs ∧ c = hasKey k kvs) ∨
    (∃ k s, x = .str k ∧ y = .str s ∧ c = !(Builtin.Str.occurrences s k 0 s.length 1).isEmpty) := by
  cases y with
  | list ys => exact .inl ⟨ys, rfl, h⟩
  | tuple ys => exact .inr (.inl ⟨ys, rfl, h⟩)
  | dict kvs =>
    obtain ⟨k, h1, h2⟩ := Option.map_eq_some_iff.mp h
    exact .inr (.inr (.inl ⟨k, kvs, keyOf_some h1, rfl, h2.symm⟩))
  | str s =>
    obtain ⟨k, h1, h2⟩ := Option.map_eq_some_iff.mp h
    exact .inr (.inr (.inr ⟨k, s, keyOf_some h1, rfl, h2.symm⟩))
  | _ => cases h
theorem RD.isNone_eq {h : Heap} {u : Value} {x : PyData} {as : List Addr} (r : RD prog w h u x as) : (u == .none) = isNone x := by
  cases r <;> rfl
theorem hasKey_dictOf (k : Str) : ∀ {kvs : List (Str × Value)} {xs : List (Str × PyData)}, kvs.map (·.1) = xs.map (·.1) → hasKey k (xs.map fun p => (.str p.1, p.2)) = (valueAt kvs k).isSome
  | [], [], _ => rfl
  | [], _ :: _, h => by simp at h
  | _ :: _, [], h => by simp at h
  | (a, v) :: kvs, (b, x) :: xs, h => by
    simp only [List.map_cons, List.cons.injEq] at h
    obtain ⟨rfl, h⟩ := h
    simp only [List.map_cons, hasKey, hasKey_dictOf k h, valueAt, List.find?_cons]
    by_cases e : a = k <;> simp [e]
theorem strKey (x : Str) (t : Tok) : (strKind prog w).is x (.str x t) = true := by simp [strKind, Value.isStrOf]
theorem cmp_ok {op : CmpOp} {a b : V} {c : Bool} {u₁ u₂ : Value} {Q : Value → Shared → Prop} (hr : RoomF A n) {W : List Addr} {s₀ : Heap} (h : aCmp op a.x b.x = some c)
    (r₁ : Rep prog w s₀ W s.heap u₁ a) (r₂ : Rep prog w s₀ W s.heap u₂ b) (hQ : ∀ s', Keeps s s' → Q (.bool c) s') :
    wpAny (model prog w) A (compareOp op u₁ u₂) Q E s := by
  obtain ⟨ax, af⟩ := a
  obtain ⟨bx, bf⟩ := b
  obtain ⟨as, ra, ca, oa⟩ := r₁
  obtain ⟨bs, rb, cb, ob⟩ := r₂
  have hu := hr.units
  dsimp only at h ra rb ca cb oa ob
  clear oa ob hr
  cases op with
  | Lt =>
    obtain ⟨a, b, rfl, rfl, rfl⟩ := cmpI_some h
    obtain ⟨t, rfl⟩ := ra.int_inv
    obtain ⟨t', rfl⟩ := rb.int_inv
    exact P.lt_int (hQ _ (keeps_refl s))
  | LtE =>
    obtain ⟨a, b, rfl, rfl, rfl⟩ := cmpI_some h
    obtain ⟨t, rfl⟩ := ra.int_inv
    obtain ⟨t', rfl⟩ := rb.int_inv
    exact P.le_int (hQ _ (keeps_refl s))
  | Gt =>
    obtain ⟨a, b, rfl, rfl, rfl⟩ := cmpI_some h
    obtain ⟨t, rfl⟩ := ra.int_inv
    obtain ⟨t', rfl⟩ := rb.int_inv
    exact P.gt_int (hQ _ (keeps_refl s))
  | GtE =>
    obtain ⟨a, b, rfl, rfl, rfl⟩ := cmpI_some h
    obtain ⟨t, rfl⟩ := ra.int_inv
    obtain ⟨t', rfl⟩ := rb.int_inv
    exact P.ge_int (hQ _ (keeps_refl s))
  | Eq =>
    obtain ⟨n1, n2, n3, rfl⟩ := cmpE_some h
    have c1 := can_of _ ca n1
    have c2 := can_of _ cb n2
    exact SeqAt.compareEq_reads (ra.reads c1) (rb.reads c2) c1 c2 (by omega) (hQ _ (keeps_refl s))
  | NotEq =>
    obtain ⟨c', hc, rfl⟩ := Option.map_eq_some_iff.mp h
    obtain ⟨n1, n2, n3, rfl⟩ := cmpE_some hc
    have c1 := can_of _ ca n1
    have c2 := can_of _ cb n2
    exact SeqAt.compareNe_reads (ra.reads c1) (rb.reads c2) c1 c2 (by omega) (hQ _ (keeps_refl s))
  | Is =>
    obtain ⟨rfl, rfl⟩ := cmpN_some h
    cases rb.none_inv
    refine is_none ?_
    rw [ra.isNone_eq]; exact hQ _ (keeps_refl s)
  | IsNot =>
    obtain ⟨c', hc, rfl⟩ := Option.map_eq_some_iff.mp h
    obtain ⟨rfl, rfl⟩ := cmpN_some hc
    cases rb.none_inv
    refine isNot_none ?_
    rw [ra.isNone_eq]; exact hQ _ (keeps_refl s)
  | In =>
    have hc : cmpIn ax bx = some c := h
    rcases cmpIn_some hc with ⟨ys, rfl, hc⟩ | ⟨ys, rfl, hc⟩ | ⟨k, kvs, rfl, rfl, rfl⟩ | ⟨k, z, rfl, rfl, rfl⟩
    · obtain ⟨n1, n2, n3, rfl⟩ := inSeq_some hc
      have c1 := can_of _ ca n1
      have c2 := cans_of _ (wf_list.mp cb).2 n2
      exact SeqAt.in_list_reads (rb.reads (by simpa [PyData.canLay0] using c2)) (ra.reads c1) c2 c1 (by omega) (hQ _ (keeps_refl s))
    · obtain ⟨n1, n2, n3, rfl⟩ := inSeq_some hc
      have c1 := can_of _ ca n1
      have c2 := cans_of _ (wf_tuple.mp cb).2 n2
      exact SeqAt.in_tuple_reads (rb.reads (by simpa [PyData.canLay0] using c2)) (ra.reads c1) c2 c1 (by omega) (hQ _ (keeps_refl s))
    · obtain ⟨t, rfl⟩ := ra.str_inv
      obtain ⟨d, ks, xs, es, rfl, rfl, rfl, b1, b2, b3, b4⟩ := rb.dict_inv
      refine wpAny_in_of (strKey _ _) b2 b1.mapOf ?_
      rw [← hasKey_dictOf _ b3]
      exact hQ _ (keeps_toks s _)
    · obtain ⟨t, rfl⟩ := ra.str_inv
      obtain ⟨t', rfl⟩ := rb.str_inv
      exact P.in_str (hQ _ (keeps_refl s))
  | NotIn =>
    obtain ⟨c', hc, rfl⟩ := Option.map_eq_some_iff.mp h
    rcases cmpIn_some hc with ⟨ys, rfl, hc⟩ | ⟨ys, rfl, hc⟩ | ⟨k, kvs, rfl, rfl, rfl⟩ | ⟨k, z, rfl, rfl, rfl⟩
    · obtain ⟨n1, n2, n3, rfl⟩ := inSeq_some hc
      have c1 := can_of _ ca n1
      have c2 := cans_of _ (wf_list.mp cb).2 n2
      exact SeqAt.notIn_list_reads (rb.reads (by simpa [PyData.canLay0] using c2)) (ra.reads c1) c2 c1 (by omega) (hQ _ (keeps_refl s))
    · obtain ⟨n1, n2, n3, rfl⟩ := inSeq_some hc
      have c1 := can_of _ ca n1
      have c2 := cans_of _ (wf_tuple.mp cb).2 n2
      exact SeqAt.notIn_tuple_reads (rb.reads (by simpa [PyData.canLay0] using c2)) (ra.reads c1) c2 c1 (by omega) (hQ _ (keeps_refl s))
    · obtain ⟨t, rfl⟩ := ra.str_inv
      obtain ⟨d, ks, xs, es, rfl, rfl, rfl, b1, b2, b3, b4⟩ := rb.dict_inv
      refine wpAny_notIn_of (strKey _ _) b2 b1.mapOf ?_
      rw [← hasKey_dictOf _ b3]
      exact hQ _ (keeps_toks s _)
    · obtain ⟨t, rfl⟩ := ra.str_inv
      obtain ⟨t', rfl⟩ := rb.str_inv
      exact P.notIn_str (hQ _ (keeps_refl s))
end
end Mine

/-! text PF3 -/
set_option autoImplicit false
namespace Mine
open PySem PySem.Calls
variable {prog : Program} {w : World} {hb : Heap} {n : Nat} {sc : Scope}

theorem bind_some {α β : Type} {o : Option α} {f : α → Option β} {b : β} (h : (o >>= f) = some b) : ∃ a, o = some a ∧ f a = some b := Option.bind_eq_some_iff.mp h
/-! ## expressions built of expressions -/
theorem Ev.bin {l r : Expr} {op : Operator} {pos : Pos} {ml mr : Rho → Option V} (hl : Ev prog w hb n sc l ml) (hr : Ev prog w hb n sc r mr) :
    Ev prog w hb n sc (.BinOp l op r pos) (fun ρ => do let a ← ml ρ; let b ← mr ρ; aBinV op a b) := by
  intro A env s₀ X C ρ O s v Q E hs hA I hm hQ
  obtain ⟨a, ha, hm⟩ := bind_some hm
  obtain ⟨b, hb', hm⟩ := bind_some hm
  refine wpAny_BinOp (hl hs hA I ha fun u s₁ k₁ r₁ => hr hs hA (I.grow k₁) hb' fun u' s₂ k₂ r₂ => ?_)
  exact bin_ok hA ((I.grow k₁).grow k₂) hm (r₁.grow (keeps_grow k₂)) r₂ fun u s' k r => hQ u s' (keeps_trans k₁ (keeps_trans k₂ k)) r
theorem Ev.cmp {l r : Expr} {op : CmpOp} {pos : Pos} {ml mr : Rho → Option V} (hl : Ev prog w hb n sc l ml) (hr : Ev prog w hb n sc r mr) (hk : behindInMarks op r = false := by rfl) :
    Ev prog w hb n sc (.Compare l [op] [r] pos) (fun ρ => do let a ← ml ρ; let b ← mr ρ; let c ← aCmp op a.x b.x; some ⟨.bool c, .d⟩) := by
  intro A env s₀ X C ρ O s v Q E hs hA I hm hQ
  obtain ⟨a, ha, hm⟩ := bind_some hm
  obtain ⟨b, hb', hm⟩ := bind_some hm
  obtain ⟨c, hc, hm⟩ := bind_some hm
  cases hm
  refine wpAny_Compare1 (hl hs hA I ha fun u s₁ k₁ r₁ => hr hs hA (I.grow k₁) hb' fun u' s₂ k₂ r₂ => ?_) hk
  exact cmp_ok hA hc (r₁.grow (keeps_grow k₂)) r₂ fun s' k => hQ _ s' (keeps_trans k₁ (keeps_trans k₂ k)) Rep.bool
theorem Tr.cmp {l r : Expr} {op : CmpOp} {pos : Pos} {ml mr : Rho → Option V} (hl : Ev prog w hb n sc l ml) (hr : Ev prog w hb n sc r mr) (hk : behindInMarks op r = false := by rfl) :
    Tr prog w hb n sc (.Compare l [op] [r] pos) (fun ρ => do let a ← ml ρ; let b ← mr ρ; aCmp op a.x b.x) := by
  intro A env s₀ X C ρ O s v Q E hs hA I hm hQ
  obtain ⟨a, ha, hm⟩ := bind_some hm
  obtain ⟨b, hb', hm⟩ := bind_some hm
  refine wpAny_isTrue_Compare1 (hl hs hA I ha fun u s₁ k₁ r₁ => hr hs hA (I.grow k₁) hb' fun u' s₂ k₂ r₂ => ?_) hk
  exact cmp_ok hA hm (r₁.grow (keeps_grow k₂)) r₂ fun s' k => wpAny_truthy_bool (hQ s' (keeps_trans k₁ (keeps_trans k₂ k)))
theorem Tr.val {e : Expr} {m : Rho → Option V} (h : Ev prog w hb n sc e m) (he : ∀ env whole, isTrue e env whole = (do let v ← whole; standAt e.pos; holding [v] (truthy v)) := by intro _ _; rfl) :
    Tr prog w hb n sc e (fun ρ => do let a ← m ρ; aTruth a.x) := by
  intro A env s₀ X C ρ O s v Q E hs hA I hm hQ
  obtain ⟨a, ha, hm⟩ := bind_some hm
  exact wpAny_isTrue_value (h hs hA I ha fun u s₁ k₁ r₁ => truth_ok hm r₁ fun s' k => hQ s' (keeps_trans k₁ k)) (he _ _)
theorem Tr.not {e : Expr} {pos : Pos} {m : Rho → Option Bool} (h : Tr prog w hb n sc e m) : Tr prog w hb n sc (.UnaryOp .Not e pos) (fun ρ => (m ρ).map (!·)) := by
  intro A env s₀ X C ρ O s v Q E hs hA I hm hQ
  obtain ⟨b, hb', rfl⟩ := Option.map_eq_some_iff.mp hm
  exact wpAny_isTrue_Not (h hs hA I hb' fun s' k => hQ s' k)
/-- tests behind one another -/
noncomputable def Trs (prog : Program) (w : World) (hb : Heap) (n : Nat) (sc : Scope) (op : BoolOp) (es : List Expr) (m : Rho → Option Bool) : Prop :=
  ∀ ⦃A : Around⦄ ⦃env : Env⦄ ⦃s₀ : Shared⦄ ⦃X C : List Addr⦄ ⦃ρ : Rho⦄ ⦃O : List (String × List Addr)⦄ ⦃s : Shared⦄ ⦃v : Bool⦄ ⦃Q : Bool → Shared → Prop⦄ ⦃E : Value → Shared → Prop⦄,
    env.scope = sc → RoomF A n → InF prog w hb s₀ X env C ρ O s → m ρ = some v → (∀ s', Keeps s s' → Q v s') → wpAny (model prog w) A (allTrue op es env) Q E s
theorem Trs.nilAnd : Trs prog w hb n sc .And [] (fun _ => some true) := by
  intro A env s₀ X C ρ O s v Q E hs hA I hm hQ
  cases hm; exact wpAny_allTrue_And_nil (hQ s (keeps_refl s))
theorem Trs.nilOr : Trs prog w hb n sc .Or [] (fun _ => some false) := by
  intro A env s₀ X C ρ O s v Q E hs hA I hm hQ
  cases hm; exact wpAny_allTrue_Or_nil (hQ s (keeps_refl s))
theorem Trs.consAnd {e : Expr} {es : List Expr} {m ms : Rho → Option Bool} (h : Tr prog w hb n sc e m) (hs' : Trs prog w hb n sc .And es ms) :
    Trs prog w hb n sc .And (e :: es) (fun ρ => do let b ← m ρ; if b then ms ρ else some false) := by
  intro A env s₀ X C ρ O s v Q E hs hA I hm hQ
  obtain ⟨b, hb', hm⟩ := bind_some hm
  refine wpAny_allTrue_And_cons (h hs hA I hb' fun s₁ k₁ => ?_)
  cases b with
  | true => exact hs' hs hA (I.grow k₁) hm fun s' k => hQ s' (keeps_trans k₁ k)
  | false => cases hm; exact hQ s₁ k₁
theorem Trs.consOr {e : Expr} {es : List Expr} {m ms : Rho → Option Bool} (h : Tr prog w hb n sc e m) (hs' : Trs prog w hb n sc .Or es ms) :
    Trs prog w hb n sc .Or (e :: es) (fun ρ => do let b ← m ρ; if b then some true else ms ρ) := by
  intro A env s₀ X C ρ O s v Q E hs hA I hm hQ
  obtain ⟨b, hb', hm⟩ := bind_some hm
  refine wpAny_allTrue_Or_cons (h hs hA I hb' fun s₁ k₁ => ?_)
  cases b with
  | false => exact hs' hs hA (I.grow k₁) hm fun s' k => hQ s' (keeps_trans k₁ k)
  | true => cases hm; exact hQ s₁ k₁
theorem Tr.all {op : BoolOp} {es : List Expr} {pos : Pos} {m : Rho → Option Bool} (h : Trs prog w hb n sc op es m) : Tr prog w hb n sc (.BoolOp op es pos) m := by
  intro A env s₀ X C ρ O s v Q E hs hA I hm hQ
  exact wpAny_isTrue_BoolOp (h hs hA I hm hQ)
theorem Ev.neg {e : Expr} {pos : Pos} {m : Rho → Option V} (h : Ev prog w hb n sc e m) : Ev prog w hb n sc (.UnaryOp .USub e pos) (fun ρ => do let a ← m ρ; match a.x with | .int i => some ⟨.int (-i), .d⟩ | _ => none) := by
  intro A env s₀ X C ρ O s v Q E hs hA I hm hQ
  obtain ⟨a, ha, hm⟩ := bind_some hm
  refine wpAny_UnaryOp (h hs hA I ha fun u s₁ k₁ r₁ => ?_)
  obtain ⟨ax, af⟩ := a
  obtain ⟨as, ra, _⟩ := r₁
  simp only at hm ra
  split at hm
  · cases hm; cases ra; exact P.neg_int (hQ _ _ (keeps_trans k₁ (keeps_toks s₁ _)) Rep.int)
  · cases hm
/-! ## displays -/
theorem Evs.nil : Evs prog w hb n sc [] (fun _ => some []) := by
  intro A env s₀ X C ρ O s vs pos Q E hs hA I hm hQ
  cases hm; exact wpAny_items_nil (hQ [] s (keeps_refl s) .nil)
theorem Evs.cons {e : Expr} {es : List Expr} {m : Rho → Option V} {ms : Rho → Option (List V)} (h : Ev prog w hb n sc e m) (hs' : Evs prog w hb n sc es ms)
    (he : ∀ env, starEach (e :: es) env = (false, eval e env) :: starEach es env := by intro _; rfl) :
    Evs prog w hb n sc (e :: es) (fun ρ => do let a ← m ρ; let as ← ms ρ; some (a :: as)) := by
  intro A env s₀ X C ρ O s vs pos Q E hs hA I hm hQ
  obtain ⟨a, ha, hm⟩ := bind_some hm
  obtain ⟨as, has, hm⟩ := bind_some hm
  cases hm
  refine wpAny_items_cons (h hs hA I ha fun u s₁ k₁ r₁ => hs' hs hA (I.grow k₁) has fun us s₂ k₂ r₂ => ?_) (he _)
  exact hQ _ _ (keeps_trans k₁ k₂) (.cons (r₁.grow (keeps_grow k₂)) r₂)
noncomputable def flsOf (vs : List V) : Fl := vs.foldr (fun v f => v.fl.join f) .d
theorem Reps.rds {s₀ h : Heap} {W : List Addr} {us : List Value} {vs : List V} (r : Reps prog w s₀ W h us vs) : ∃ as, RDs prog w h us (vs.map (·.x)) as ∧ wfs (vs.map (·.x)) = true ∧ FlOk s₀ W (flsOf vs) as := by
  induction r with
  | nil => exact ⟨[], .nil, rfl, FlOk.nil⟩
  | cons a _ ih =>
    obtain ⟨as, r, c, o⟩ := ih
    obtain ⟨bs, r', c', o'⟩ := a
    refine ⟨bs ++ as, .cons r' r, by simp [wfs, c, c'], ?_⟩
    simp only [flsOf, List.foldr_cons]
    exact FlOk.append o'.join_l o.join_r
theorem Reps.length {s₀ h : Heap} {W : List Addr} {us : List Value} {vs : List V} (r : Reps prog w s₀ W h us vs) : us.length = vs.length := by
  induction r with
  | nil => rfl
  | cons _ _ ih => simp [ih]
theorem Ev.list {es : List Expr} {pos : Pos} {ms : Rho → Option (List V)} (h : Evs prog w hb n sc es ms) :
    Ev prog w hb n sc (.List es pos) (fun ρ => do let vs ← ms ρ; if vs.length ≤ sizeLine then some (V.newL (vs.map (·.x)) (flsOf vs)) else none) := by
  intro A env s₀ X C ρ O s v Q E hs hA I hm hQ
  obtain ⟨vs, hvs, hm⟩ := bind_some hm
  split at hm
  · rename_i hz
    cases hm
    refine wpAny_List (h hs hA I hvs fun us s₁ k₁ r₁ => ⟨by rw [r₁.length]; exact hz, ?_⟩)
    obtain ⟨as, r, c, o⟩ := r₁.rds
    exact hQ _ _ (keeps_trans k₁ (keeps_push _ _)) ((I.grow k₁).newL r (wf_list.mpr ⟨by simpa using hz, c⟩) o)
  · cases hm
theorem Ev.tuple {es : List Expr} {k : Nat} {pos : Pos} {ms : Rho → Option (List V)} (h : Evs prog w hb n sc es ms) :
    Ev prog w hb n sc (.Tuple es k pos) (fun ρ => do let vs ← ms ρ; if vs.length ≤ sizeLine then some (V.fix (.tuple (vs.map (·.x))) (flsOf vs)) else none) := by
  intro A env s₀ X C ρ O s v Q E hs hA I hm hQ
  obtain ⟨vs, hvs, hm⟩ := bind_some hm
  split at hm
  · rename_i hz
    cases hm
    refine wpAny_Tuple (h hs hA I hvs fun us s₁ k₁ r₁ => ⟨by rw [r₁.length]; exact hz, ?_⟩)
    obtain ⟨as, r, c, o⟩ := r₁.rds
    exact hQ _ _ (keeps_trans k₁ (keeps_push _ _)) ((I.grow k₁).newT r (wf_tuple.mpr ⟨by simpa using hz, c⟩) o)
  · cases hm
end Mine

/-! text PF4 -/
set_option autoImplicit false
namespace Mine
open PySem PySem.Calls
variable {prog : Program} {w : World} {hb : Heap} {n : Nat} {sc : Scope}

/-! ## items -/
noncomputable def seqAt {α : Type} (xs : List α) (k : Int) : Option α := if 0 ≤ k then xs[k.toNat]? else if -(xs.length : Int) ≤ k then xs[(k + xs.length).toNat]? else none
noncomputable def atKey (k : Str) : List (PyData × PyData) → Option PyData
  | [] => none
  | (.str x, v) :: r => if x = k then some v else atKey k r
  | _ :: r => atKey k r
noncomputable def intOf : PyData → Option Int
  | .int k => some k
  | _ => none
theorem intOf_some {x : PyData} {k : Int} (h : intOf x = some k) : x = .int k := by
  cases x with
  | int i => cases h; rfl
  | _ => cases h
noncomputable def aIdx (x y : PyData) : Option PyData := match x with
  | .list xs => (intOf y).bind fun k => seqAt xs k
  | .tuple xs => (intOf y).bind fun k => seqAt xs k
  | .str x => (intOf y).bind fun k => (seqAt x.cps.toList k).map fun c => .str ⟨#[c]⟩
  | .dict kvs => (keyOf y).bind fun k => atKey k kvs
  | _ => none
theorem seqAt_lt {α : Type} {xs : List α} {k : Int} {x : α} (h : seqAt xs k = some x) : -(xs.length : Int) ≤ k ∧ k < xs.length ∧ ∃ i, seqIndex? k xs.length = some i ∧ xs[i]? = some x := by
  unfold seqAt at h
  unfold seqIndex?
  split at h
  · rename_i hk
    have := (List.getElem?_eq_some_iff.mp h).1
    refine ⟨by omega, by omega, k.toNat, ?_, h⟩
    simp only [show ¬ k < 0 by omega, if_false]
    simp only [show (0 ≤ k ∧ k < (xs.length : Int)) by omega]
    simp
  · split at h
    · rename_i hk hk'
      have := (List.getElem?_eq_some_iff.mp h).1
      refine ⟨by omega, by omega, (k + xs.length).toNat, ?_, h⟩
      simp only [show k < 0 by omega, if_true]
      simp only [show (0 ≤ k + (xs.length : Int) ∧ k + (xs.length : Int) < (xs.length : Int)) by omega]
      simp
    · cases h
theorem wfs_get {xs : List PyData} {i : Nat} {x : PyData} (h : wfs xs = true) (e : xs[i]? = some x) : wf x = true := (wfs_iff xs).mp h x (List.mem_of_getElem? e)
theorem valueAt_hit {ks : List (Str × Value)} {p : Str × Value} {k : Str} (h : p.1 = k) : valueAt (p :: ks) k = some p.2 := by
  unfold valueAt
  rw [List.find?_cons, show decide (p.1 = k) = true from decide_eq_true h]; rfl
theorem valueAt_miss {ks : List (Str × Value)} {p : Str × Value} {k : Str} (h : ¬ p.1 = k) : valueAt (p :: ks) k = valueAt ks k := by
  unfold valueAt
  rw [List.find?_cons, show decide (p.1 = k) = false from decide_eq_false h]
theorem key_get {h : Heap} {k : Str} {ks : List (Str × Value)} : ∀ {ys : List (Str × PyData)} {cs : List Addr}, ks.map (·.1) = ys.map (·.1) → RDs prog w h (ks.map (·.2)) (ys.map (·.2)) cs →
    (∀ x, atKey k (ys.map fun p => (.str p.1, p.2)) = some x → ∃ v ds, valueAt ks k = some v ∧ RD prog w h v x ds ∧ (∀ d ∈ ds, d ∈ cs) ∧ ∃ q ∈ ys, q.2 = x) ∧
    (atKey k (ys.map fun p => (.str p.1, p.2)) = none → valueAt ks k = none) := by
  induction ks with
  | nil =>
    intro ys cs e _
    cases ys with
    | nil => exact ⟨fun x h => (nomatch h), fun _ => rfl⟩
    | cons q ys => cases e
  | cons p ks ih =>
    intro ys cs e r
    cases ys with
    | nil => cases e
    | cons q ys =>
      obtain ⟨e0, e1⟩ := List.cons.inj e
      obtain ⟨as, bs, rfl, r1, r2⟩ := r.cons_inv
      obtain ⟨i1, i2⟩ := ih e1 r2
      show (∀ x, (if q.1 = k then some q.2 else atKey k (ys.map fun p => (.str p.1, p.2))) = some x → _) ∧ ((if q.1 = k then some q.2 else atKey k (ys.map fun p => (.str p.1, p.2))) = none → _)
      by_cases hk : q.1 = k
      · rw [if_pos hk]
        refine ⟨fun x h => ?_, fun h => (nomatch h)⟩
        cases h
        exact ⟨p.2, as, valueAt_hit (e0.trans hk), r1, fun d hd => List.mem_append_left _ hd, q, .head _, rfl⟩
      · rw [if_neg hk, valueAt_miss fun e => hk (e0.symm.trans e)]
        refine ⟨fun x h => ?_, i2⟩
        obtain ⟨v, ds, a, b, c, q', hq, d⟩ := i1 x h
        exact ⟨v, ds, a, b, fun y hy => List.mem_append_right _ (c y hy), q', .tail _ hq, d⟩
theorem wfk_at : ∀ {ys : List (Str × PyData)} {q : Str × PyData}, wfk (ys.map fun p => (.str p.1, p.2)) = true → q ∈ ys → wf q.2 = true
  | [], q, _, h => nomatch h
  | y :: ys, q, h, hq => by
    simp only [List.map_cons, wfk, Bool.and_eq_true] at h
    rcases List.mem_cons.mp hq with rfl | hq
    · exact h.1.2
    · exact wfk_at h.2 hq
section
variable {A : Around} {env : Env} {s₀ : Heap} {W : List Addr} {s : Shared} {E : Value → Shared → Prop}
theorem getItem_ok {a b : V} {x : PyData} {u₁ u₂ : Value} {Q : Value → Shared → Prop} (h : aIdx a.x b.x = some x) (r₁ : Rep prog w s₀ W s.heap u₁ a) (r₂ : Rep prog w s₀ W s.heap u₂ b)
    (hQ : ∀ u s', Keeps s s' → Rep prog w s₀ W s'.heap u (V.fix x a.fl) → Q u s') : wpAny (model prog w) A (getItem u₁ u₂) Q E s ∧ ∃ T id, s.TypeIs u₁ T ∧ typeLookup (.type T) "__getitem__" = pure (some (.builtin id)) := by
  obtain ⟨ax, af⟩ := a
  obtain ⟨bx, bf⟩ := b
  obtain ⟨as, ra, ca, oa⟩ := r₁
  obtain ⟨bs, rb, cb, ob⟩ := r₂
  have hz := sizeLine_small
  dsimp only at h ra rb ca cb oa ob hQ
  clear cb ob
  cases ax with
  | list xs =>
    obtain ⟨k, hk, h⟩ := Option.bind_eq_some_iff.mp h
    obtain rfl := intOf_some hk
    obtain ⟨t, rfl⟩ := rb.int_inv
    obtain ⟨d, us, m, ds, rfl, rfl, a1, a2⟩ := ra.list_inv
    clear rb ra hk
    rw [wf_list] at ca
    have hl := a2.length
    obtain ⟨l1, l2, i, hi, hx⟩ := seqAt_lt h
    obtain ⟨v, cs, e1, e2, e3⟩ := a2.get hx
    refine ⟨?_, "list", _, ⟨_, a1, rfl⟩, list_getitem_lookup⟩
    have fin : Q v s := hQ v s (keeps_refl s) (Rep.fixed e2 (wfs_get ca.2 hx) (oa.mono fun b hb => .tail _ (e3 b hb)))
    clear hQ e2 e3 oa h hx
    by_cases hk : 0 ≤ k
    · refine wpAny_getItem_list ⟨_, a1, rfl, _, rfl⟩ hk (by omega) ?_ fin
      simp only [seqIndex?, show ¬ (k < 0) from by omega, if_false] at hi
      split at hi
      · cases hi; simpa using e1
      · cases hi
    · refine wpAny_getItem_list_neg ⟨_, a1, rfl, _, rfl⟩ (by omega) (by simp; omega) (by omega) ?_ fin
      simp only [seqIndex?, show (k < 0) from by omega, if_true] at hi
      split at hi
      · cases hi; simpa [hl] using e1
      · cases hi
  | tuple xs =>
    obtain ⟨k, hk, h⟩ := Option.bind_eq_some_iff.mp h
    obtain rfl := intOf_some hk
    obtain ⟨t, rfl⟩ := rb.int_inv
    obtain ⟨d, us, m, rfl, a1, a2⟩ := ra.tuple_inv
    clear rb ra hk
    rw [wf_tuple] at ca
    have hl := a2.length
    obtain ⟨l1, l2, i, hi, hx⟩ := seqAt_lt h
    obtain ⟨v, cs, e1, e2, e3⟩ := a2.get hx
    refine ⟨?_, "tuple", _, ⟨_, a1, rfl⟩, F.slot_tuple_getitem.lookup⟩
    refine P.getItem_tuple a1 (by omega) (by omega) (k := i) (by simpa [hl] using hi) (by simpa using e1) ?_
    exact hQ v s (keeps_refl s) (Rep.fixed e2 (wfs_get ca.2 hx) (oa.mono e3))
  | str x =>
    obtain ⟨k, hk, h⟩ := Option.bind_eq_some_iff.mp h
    obtain rfl := intOf_some hk
    obtain ⟨c, hc, rfl⟩ := Option.map_eq_some_iff.mp h
    obtain ⟨t, rfl⟩ := rb.int_inv
    obtain ⟨t', rfl⟩ := ra.str_inv
    clear rb ra hk
    rw [wf_str] at ca
    obtain ⟨l1, l2, i, hi, hx⟩ := seqAt_lt hc
    have hlen : x.cps.toList.length = x.length := by simp [Str.length]
    rw [hlen] at l1 l2 hi
    refine ⟨?_, "str", _, typeIs_str s _ _, F.slot_str_getitem.lookup⟩
    have := ca.2
    refine P.getItem_str (c := c) ?_ (by rw [hi]; simpa using hx) (hQ _ _ (keeps_toks s _) (Rep.fixed (.str _ _) (wf_str.mpr ⟨?_, by show 1 ≤ sizeLine; decide⟩) FlOk.nil))
    · have h1 : ¬ k < -(2 ^ 63 : Int) := by omega
      have h2 : ¬ k ≥ 2 ^ 63 := by omega
      rw [decide_eq_false h1, decide_eq_false h2]; rfl
    · have := ca.1
      unfold PyData.strOk at this ⊢
      have hc' : c ∈ x.cps := by
        have := List.mem_of_getElem? hx
        simpa using this
      have := Array.all_eq_true'.mp this c hc'
      simpa using this
  | dict kvs =>
    obtain ⟨k, hk, h⟩ := Option.bind_eq_some_iff.mp h
    obtain rfl := keyOf_some hk
    obtain ⟨t, rfl⟩ := rb.str_inv
    obtain ⟨d, ks, ys, es, rfl, rfl, rfl, b1, b2, b3, b4⟩ := ra.dict_inv
    clear rb ra hk
    obtain ⟨v, ds, g1, g2, g3, q, g4, rfl⟩ := (key_get b3 b4).1 x h
    have hwf : wf q.2 = true := by
      simp only [wf, Bool.and_eq_true] at ca
      exact wfk_at ca.2 g4
    refine ⟨?_, "dict", _, b1.typeIs, slot_dict_getitem.lookup⟩
    exact wpAny_getItem_of (strKey _ _) b1.mapOf g1 (hQ _ _ (keeps_toks s _) (Rep.fixed g2 hwf (oa.mono fun d hd => .tail _ (g3 d hd))))
  | _ => cases h
end
theorem Ev.idx {e i : Expr} {pos : Pos} {m mi : Rho → Option V} (h : Ev prog w hb n sc e m) (hi : Ev prog w hb n sc i mi) (hs' : ∀ o j, ∃ ops, subscripted i false o j = operate ops (getItem o j) := by intro _ _; exact ⟨_, rfl⟩) :
    Ev prog w hb n sc (.Subscript e i pos) (fun ρ => do let a ← m ρ; let b ← mi ρ; let x ← aIdx a.x b.x; some (V.fix x a.fl)) := by
  intro A env s₀ X C ρ O s v Q E hs hA I hm hQ
  obtain ⟨a, ha, hm⟩ := bind_some hm
  obtain ⟨b, hb', hm⟩ := bind_some hm
  obtain ⟨x, hx, hm⟩ := bind_some hm
  cases hm
  refine PyProof.Rows.Subscript_ (h hs hA I ha fun u s₁ k₁ r₁ => hi hs hA (I.grow k₁) hb' fun u' s₂ k₂ r₂ => ?_)
  obtain ⟨g, T, id, hT, hl⟩ := getItem_ok (A := A) (E := E) (Q := Q) hx (r₁.grow (keeps_grow k₂)) r₂ fun u s' k r => hQ u s' (keeps_trans k₁ (keeps_trans k₂ k)) r
  obtain ⟨ops, e⟩ := hs' u u'
  exact PyProof.Rows.tail_any hT hl g e

/-! ## slices -/
noncomputable def Pt (prog : Program) (w : World) (hb : Heap) (n : Nat) (sc : Scope) (e : Option Expr) (m : Rho → Option (Option Int)) : Prop :=
  ∀ ⦃A : Around⦄ ⦃env : Env⦄ ⦃s₀ : Shared⦄ ⦃X C : List Addr⦄ ⦃ρ : Rho⦄ ⦃O : List (String × List Addr)⦄ ⦃s : Shared⦄ ⦃v : Option Int⦄ ⦃Q : Value → Shared → Prop⦄ ⦃E : Value → Shared → Prop⦄,
    env.scope = sc → RoomF A n → InF prog w hb s₀ X env C ρ O s → m ρ = some v → (∀ p s', Keeps s s' → p.map (·.1) = v → Q (partValue p) s') → wpAny (model prog w) A (evalPart e env) Q E s
theorem Pt.no : Pt prog w hb n sc none (fun _ => some none) := by
  intro A env s₀ X C ρ O s v Q E hs hA I hm hQ
  cases hm
  rw [evalPart_none]
  exact wpAny_pure (hQ none s (keeps_refl s) rfl)
theorem Pt.yes {e : Expr} {m : Rho → Option V} (h : Ev prog w hb n sc e m) : Pt prog w hb n sc (some e) (fun ρ => do let a ← m ρ; match a.x with | .int i => some (some i) | _ => none) := by
  intro A env s₀ X C ρ O s v Q E hs hA I hm hQ
  obtain ⟨⟨ax, af⟩, ha, hm⟩ := bind_some hm
  rw [evalPart_some]
  refine h hs hA I ha fun u s' k r => ?_
  obtain ⟨as, ra, _⟩ := r
  simp only at hm ra
  split at hm
  · cases hm; cases ra; exact hQ (some (_, _)) s' k rfl
  · cases hm
noncomputable def sliceIdx (lo hi st : Option Int) (k : Nat) : List Nat := sliceRange (sliceBounds lo hi st k).1 (sliceBounds lo hi st k).2.1 (sliceBounds lo hi st k).2.2
noncomputable def aSlice (lo hi st : Option Int) : PyData → Option PyData
  | .list xs => if st = some 0 then none else some (.list ((sliceIdx lo hi st xs.length).filterMap (xs[·]?)))
  | .str x => if st.getD 1 = 0 then none else some (.str (if st.getD 1 = 1 ∧ (Builtin.Str.strSliceIndices lo hi (st.getD 1) x.length).length = x.length then x else ⟨((Builtin.Str.strSliceIndices lo hi (st.getD 1) x.length).filterMap (x.cps[·]?)).toArray⟩))
  | _ => none
noncomputable def aSliceV (lo hi st : Option Int) (a : V) : Option V := (aSlice lo hi st a.x).map fun x => match x with
  | .list xs => V.newL xs a.fl
  | x => ⟨x, .d⟩
theorem IsPart.of {p : Option (Int × Tok)} {v : Option Int} (h : p.map (·.1) = v) : IsPart (partValue p) v := by
  subst h
  cases p with
  | none => exact .none
  | some p => exact .int _ _
theorem strOk_pick {x : Str} (h : PyData.strOk x = true) (is : List Nat) : PyData.strOk ⟨(is.filterMap (x.cps[·]?)).toArray⟩ = true := by
  unfold PyData.strOk at *
  rw [List.all_toArray, List.all_eq_true]
  intro c hc
  obtain ⟨i, _, hi⟩ := List.mem_filterMap.mp hc
  exact Array.all_eq_true'.mp h c (Array.mem_of_getElem? hi)
theorem wfs_pick {xs : List PyData} (h : wfs xs = true) (is : List Nat) : wfs (is.filterMap (xs[·]?)) = true := by
  rw [wfs_iff] at *
  intro x hx
  obtain ⟨i, _, hi⟩ := List.mem_filterMap.mp hx
  exact h x (List.mem_of_getElem? hi)
theorem pick_len {α : Type} (xs : List Value) (ys : List α) (h : xs.length = ys.length) (lo hi st : Option Int) : ((sliceIdx lo hi st ys.length).filterMap (ys[·]?)).length ≤ ys.length := by
  have e : ((sliceIdx lo hi st ys.length).filterMap (ys[·]?)).length = ((sliceIdx lo hi st ys.length).filterMap (xs[·]?)).length := by
    generalize sliceIdx lo hi st ys.length = l
    induction l with
    | nil => rfl
    | cons i l ih =>
      by_cases hi : i < ys.length
      · simp [List.getElem?_eq_getElem hi, List.getElem?_eq_getElem (show i < xs.length by omega), ih]
      · simp [List.getElem?_eq_none (show ys.length ≤ i by omega), List.getElem?_eq_none (show xs.length ≤ i by omega), ih]
  have := slicePick_size_le xs.toArray lo hi st
  simp only [slicePick, List.size_toArray, List.getElem?_toArray] at this
  rw [e, ← h]
  exact this
section
variable {A : Around} {env : Env} {s₀ : Shared} {X C : List Addr} {ρ : Rho} {O : List (String × List Addr)} {s : Shared} {E : Value → Shared → Prop}
theorem slice_ok {a v : V} {u : Value} {l h st : Option Int} {pl ph pst : Option (Int × Tok)} {sl : Addr} {Q : Value → Shared → Prop} (I : InF prog w hb s₀ X env C ρ O s) (e : aSliceV l h st a = some v) (r : Rep prog w s₀.heap (WW env C O) s.heap u a)
    (el : pl.map (·.1) = l) (eh : ph.map (·.1) = h) (est : pst.map (·.1) = st) (hsl : s.heap.get? sl = some { cls := .type "slice", data := .fields #[partValue pl, partValue ph, partValue pst] })
    (hQ : ∀ u s', Keeps s s' → Rep prog w s₀.heap (WW env C O) s'.heap u v → Q u s') : wpAny (model prog w) A (getItem u (.ref sl)) Q E s ∧ ∃ T id, s.TypeIs u T ∧ typeLookup (.type T) "__getitem__" = pure (some (.builtin id)) := by
  obtain ⟨x, hx, hv⟩ := Option.map_eq_some_iff.mp e
  obtain ⟨ax, af⟩ := a
  obtain ⟨as, ra, ca, oa⟩ := r
  simp only at *
  unfold aSlice at hx
  split at hx
  · rename_i xs
    split at hx
    · cases hx
    · rename_i h0
      cases hx; cases hv
      cases ra with
      | list a1 a2 =>
      rename_i ad vs k bs
      rw [wf_list] at ca
      have hl := a2.length
      refine ⟨?_, "list", _, ⟨_, a1, rfl⟩, list_getitem_lookup⟩
      refine wpAny_getItem_list_slice ⟨_, a1, rfl, _, rfl⟩ ⟨_, hsl, rfl, rfl⟩ (IsPart.of el) (IsPart.of eh) (IsPart.of est) h0 ?_ (by simp [hl]; exact ca.1)
      have e2 : slicePick vs.toArray l h st = ((sliceIdx l h st xs.length).filterMap (vs[·]?)).toArray := by
        simp only [slicePick, sliceIdx, List.size_toArray, List.getElem?_toArray, hl]
      rw [e2]
      obtain ⟨cs, q, hq⟩ := a2.part (sliceIdx l h st xs.length)
      have := pick_len vs xs hl l h st
      refine hQ _ _ (keeps_push s _) (I.newL q (wf_list.mpr ⟨by have := ca.1; omega, wfs_pick ca.2 _⟩) (oa.mono fun b hb => .tail _ (hq b hb)))
  · rename_i x
    split at hx
    · cases hx
    · rename_i h0
      cases hx; cases hv; cases ra
      rw [wf_str] at ca
      refine ⟨?_, "str", _, typeIs_str s _ _, F.slot_str_getitem.lookup⟩
      have hst : (pst.map (·.1)).getD 1 = st.getD 1 := by rw [est]
      refine wpAny_getItem_str_slice (l := pl) (u := ph) (st := pst) ⟨_, hsl, rfl, rfl⟩ (by rw [hst]; simpa using h0) ?_
      unfold sliceMade slicePicked
      rw [hst, el, eh]
      by_cases hc : st.getD 1 = 1 ∧ (Builtin.Str.strSliceIndices l h (st.getD 1) x.length).length = x.length
      · have hc' : (st.getD 1 == 1 && (Builtin.Str.strSliceIndices l h (st.getD 1) x.length).length == x.length) = true := by simpa using hc
        rw [if_pos hc']
        rw [if_pos hc] at hQ
        exact hQ _ _ (keeps_refl s) (Rep.str (wf_str.mpr ca))
      · have hc' : ¬ (st.getD 1 == 1 && (Builtin.Str.strSliceIndices l h (st.getD 1) x.length).length == x.length) = true := by simpa using hc
        rw [if_neg hc']
        rw [if_neg hc] at hQ
        have hlen : (⟨((Builtin.Str.strSliceIndices l h (st.getD 1) x.length).filterMap (x.cps[·]?)).toArray⟩ : Str).length ≤ sizeLine := by
          have q := pick_len (List.replicate x.cps.toList.length Value.none) x.cps.toList (by simp) l h st
          have e1 : x.cps.toList.length = x.length := by simp [Str.length]
          rw [e1] at q
          have e2 : Builtin.Str.strSliceIndices l h (st.getD 1) x.length = sliceIdx l h st x.length := rfl
          rw [e2]
          show (List.toArray _).size ≤ sizeLine
          rw [List.size_toArray]
          have e3 : (sliceIdx l h st x.length).filterMap (x.cps.toList[·]?) = (sliceIdx l h st x.length).filterMap (x.cps[·]?) := by simp
          rw [← e3]
          have := ca.2
          omega
        exact ⟨hlen, hQ _ _ (keeps_toks s _) (Rep.str (wf_str.mpr ⟨strOk_pick ca.1 _, hlen⟩))⟩
  · cases hx
end
theorem Ev.slice {e : Expr} {lo hi st : Option Expr} {p pos : Pos} {m : Rho → Option V} {ml mh ms : Rho → Option (Option Int)} (h : Ev prog w hb n sc e m) (hl : Pt prog w hb n sc lo ml) (hh : Pt prog w hb n sc hi mh) (hst : Pt prog w hb n sc st ms)
    (hs' : ∀ o j, ∃ ops, subscripted (.Slice lo hi st p) false o j = operate ops (getItem o j) := by intro _ _; exact ⟨_, rfl⟩) :
    Ev prog w hb n sc (.Subscript e (.Slice lo hi st p) pos) (fun ρ => do let a ← m ρ; let l ← ml ρ; let u ← mh ρ; let t ← ms ρ; aSliceV l u t a) := by
  intro A env s₀ X C ρ O s v Q E hs hA I hm hQ
  obtain ⟨a, ha, hm⟩ := bind_some hm
  obtain ⟨l, hl', hm⟩ := bind_some hm
  obtain ⟨u, hu', hm⟩ := bind_some hm
  obtain ⟨t, ht', hm⟩ := bind_some hm
  refine PyProof.Rows.Subscript_ (h hs hA I ha fun v₁ s₁ k₁ r₁ => wpAny_Slice (hl hs hA (I.grow k₁) hl' fun p₂ s₂ k₂ e₂ => hh hs hA ((I.grow k₁).grow k₂) hu' fun p₃ s₃ k₃ e₃ => hst hs hA (((I.grow k₁).grow k₂).grow k₃) ht' fun p₄ s₄ k₄ e₄ => ?_))
  have kk := keeps_trans k₁ (keeps_trans k₂ (keeps_trans k₃ (keeps_trans k₄ (keeps_push s₄ { cls := .type "slice", data := .fields #[partValue p₂, partValue p₃, partValue p₄] }))))
  have kk' := keeps_trans k₂ (keeps_trans k₃ (keeps_trans k₄ (keeps_push s₄ { cls := .type "slice", data := .fields #[partValue p₂, partValue p₃, partValue p₄] })))
  obtain ⟨g, T, id, hT, hlk⟩ := slice_ok (A := A) (E := E) (Q := Q) (I.grow kk) hm (r₁.grow (keeps_grow kk')) e₂ e₃ e₄ (Heap.get?_push_size _ rfl) fun u s' k r => hQ u s' (keeps_trans kk k) r
  obtain ⟨ops, e⟩ := hs' v₁ (.ref s₄.heap.objs.size)
  exact PyProof.Rows.tail_any hT hlk g e
end Mine

/-! text PF5 -/
set_option autoImplicit false
namespace Mine
open PySem PySem.Calls
variable {prog : Program} {w : World} {hb : Heap} {n : Nat} {sc : Scope}

theorem map_toNat_inj : ∀ {l l' : List Char}, l.map Char.toNat = l'.map Char.toNat → l = l'
  | [], [], _ => rfl
  | [], _ :: _, h => by simp at h
  | _ :: _, [], h => by simp at h
  | a :: l, b :: l', h => by
    simp only [List.map_cons, List.cons.injEq] at h
    rw [map_toNat_inj h.2]
    congr 1
    exact Char.ext (UInt32.toNat_inj.mp h.1)
theorem ofString_inj {x y : String} (h : Str.ofString x = Str.ofString y) : x = y := by
  rw [Str.ofString_eq_toList, Str.ofString_eq_toList] at h
  simp only [Str.mk.injEq] at h
  have := map_toNat_inj (by simpa using congrArg Array.toList h)
  exact String.toList_inj.mp this

section
variable {s₀ s : Shared} {X : List Addr} {env : Env} {C : List Addr} {ρ : Rho} {O : List (String × List Addr)}
/-- a heap that is changed at some of the frame's own addresses alone -/
structure Wrote (Z W : List Addr) (h h' : Heap) : Prop where
  sub : ∀ a ∈ Z, a ∈ W
  same : ∀ b o, h.get? b = some o → b ∉ Z → h'.get? b = some o
  here : ∀ a ∈ Z, ∃ o, h'.get? a = some o ∧ ¬ Tup o
theorem Wrote.off {Z W : List Addr} {h h' : Heap} (k : Wrote Z W h h') (ht : ∀ a ∈ W, ∃ o, h.get? a = some o ∧ ¬ Tup o) : Off W h h' := by
  intro b o e hc
  refine k.same b o e fun hz => ?_
  rcases hc with hc | hc
  · exact hc (k.sub b hz)
  · obtain ⟨o', e', q⟩ := ht b (k.sub b hz)
    rw [e] at e'; cases e'; exact q hc
theorem Rep.off {s₀ h h' : Heap} {W : List Addr} {u : Value} {v : V} (k : Off W h h') (r : Rep prog w s₀ W h u v) (hf : v.fl = .d ∨ v.fl = .s) : Rep prog w s₀ W h' u v := by
  obtain ⟨as, r, c, o⟩ := r
  refine ⟨as, r.off k ?_, c, o⟩
  rcases hf with hf | hf <;> rw [hf] at o
  · exact fun a ha => (o a ha).2
  · exact o
theorem RepO.off {s₀ h h' : Heap} {Z W : List Addr} {u : Value} {o : Own} {sp : List Addr} (k : Off W h h') (k' : ∀ b ob, h.get? b = some ob → b ∉ Z → h'.get? b = some ob) (r : RepO prog w s₀ W h u o sp) (hz : ∀ a ∈ sp, a ∉ Z) : RepO prog w s₀ W h' u o sp := by
  cases r with
  | lst a b c d => exact .lst (k' _ _ a (hz _ (.head _))) (b.off k fun x hx => (d x hx).2) c d
  | dct a g e b c d =>
    obtain ⟨o, es, ep, ho, r⟩ := a
    exact .dct ⟨o, es, ep, k' _ _ ho (hz _ (.head _)), r⟩ g e (b.off k fun x hx => (d x hx).2) c d
  | tree a b c => exact .tree (a.off (W := Z) (fun b o e q => q.elim (k' b o e) fun t => k b o e (.inr t)) hz) b c
theorem lookup_mem {α β : Type} [BEq α] [LawfulBEq α] {l : List (α × β)} {x : α} {y : β} (h : l.lookup x = some y) : (x, y) ∈ l := by
  induction l with
  | nil => simp at h
  | cons p l ih =>
    obtain ⟨a, b⟩ := p
    rw [List.lookup_cons] at h
    split at h
    · rename_i e
      cases h
      rw [eq_of_beq e]; exact .head _
    · exact .tail _ (ih h)
theorem own_sub {x : String} {sp : List Addr} (h : O.lookup x = some sp) {a : Addr} (ha : a ∈ sp) : a ∈ WW env C O := by
  refine List.mem_cons_of_mem _ (List.mem_append_right _ (List.mem_flatMap.mpr ⟨(x, sp), lookup_mem h, ha⟩))
/-- all but what is told of the variables, behind a write -/
theorem InF.wrote (I : InF prog w hb s₀ X env C ρ O s) {Z : List Addr} {h' : Heap} (k : Wrote Z (WW env C O) s.heap h') :
    Base prog hb h' ∧ (∀ b o, s₀.heap.get? b = some o → b ∉ X → h'.get? b = some o) ∧ (∀ b o, s₀.heap.get? b = some o → ∃ o', h'.get? b = some o') ∧ (∀ a ∈ WW env C O, ∃ o, h'.get? a = some o ∧ ¬ Tup o) ∧ Off (WW env C O) s.heap h' := by
  refine ⟨⟨I.base.lim, I.base.seer, I.base.tree, I.base.mods, fun b o e => k.same b o (I.base.grow b o e) fun hz => ?_⟩, fun b o e hx => k.same b o (I.keep b o e hx) fun hz => ?_, fun b o e => ?_, fun a ha => ?_, k.off I.walive⟩
  · rw [(I.wfresh b (k.sub b hz)).1] at e; cases e
  · rw [(I.wfresh b (k.sub b hz)).2 hx] at e; cases e
  · by_cases hz : b ∈ Z
    · obtain ⟨o', e', _⟩ := k.here b hz; exact ⟨o', e'⟩
    · obtain ⟨o', e'⟩ := I.alive b o e; exact ⟨o', k.same b o' e' hz⟩
  · by_cases hz : a ∈ Z
    · exact k.here a hz
    · obtain ⟨o, e, c⟩ := I.walive a ha; exact ⟨o, k.same a o e hz, c⟩
theorem RepVV.wrote {s₀ h h' : Heap} {Z W : List Addr} {O : List (String × List Addr)} {x : String} {u : Value} {vv : VV} (k : Off W h h') (k' : ∀ b ob, h.get? b = some ob → b ∉ Z → h'.get? b = some ob) (r : RepVV prog w s₀ W O h x u vv) (hz : ∀ sp, O.lookup x = some sp → ∀ a ∈ sp, a ∉ Z) : RepVV prog w s₀ W O h' x u vv := by
  cases vv with
  | val v => exact ⟨r.1, r.2.off k r.1⟩
  | own o => obtain ⟨sp, e, r⟩ := r; exact ⟨sp, e, r.off k k' (hz sp e)⟩

theorem own_off (hn : (WW env C O).Nodup) {x : String} {sp : List Addr} (h : O.lookup x = some sp) {a : Addr} (ha : a ∈ sp) : a ≠ env.locals ∧ a ∉ C := by
  have hm : a ∈ O.flatMap (·.2) := List.mem_flatMap.mpr ⟨(x, sp), lookup_mem h, ha⟩
  unfold WW at hn
  rw [List.nodup_cons, List.nodup_append] at hn
  refine ⟨fun e => hn.1 (e ▸ List.mem_append_right _ hm), fun hc => hn.2.2.2 a hc a hm rfl⟩
/-- a local name is bound to a value -/
theorem InS.setL (I : InS prog w hb s₀ X env C ρ O s) {x : String} {u : Value} {v : VV} {m : Str → Option Value} {h' : Heap} {tk : Nat} (hk : env.kindOf (Str.ofString x) = some .local)
    (hmv : ∀ y vv, ρ y = some vv → env.kindOf (Str.ofString y) = some .local → ∃ u, m (Str.ofString y) = some u ∧ RepVV prog w s₀.heap (WW env C O) O s.heap y u vv)
    (hn : h'.Ns env.locals (fun y => if y = Str.ofString x then some u else m y)) (hs : Heap.SameBut env.locals s.heap h') (r : RepVV prog w s₀.heap (WW env C O) O s.heap x u v) :
    InS prog w hb s₀ X env C (ρ.set x v) O { s with heap := h', toks := tk } := by
  have K : Wrote [env.locals] (WW env C O) s.heap h' := by
    refine ⟨fun a ha => by rw [List.mem_singleton.mp ha]; exact .head _, fun b o e hb' => (hs.2 b (by simpa using hb')).trans e, fun a ha => ?_⟩
    rw [List.mem_singleton.mp ha]
    obtain ⟨o, es, ep, ho, hd, _⟩ := hn
    refine ⟨o, ho, fun ⟨vs, k, hc⟩ => ?_⟩
    rw [hc] at hd; cases hd
  obtain ⟨w1, w2, w3, w4, w5⟩ := I.toInF.wrote K
  obtain ⟨h0, t0, e0⟩ := I.same
  have hne : ∀ c ∈ C, c ≠ env.locals := fun c hc e => by
    have := I.wnodup
    unfold WW at this
    rw [List.nodup_cons] at this
    exact this.1 (e ▸ List.mem_append_left _ hc)
  refine ⟨⟨⟨h', tk, by rw [e0]⟩, w1, w2, w3, w4, I.wfresh, I.wnodup, I.kind, I.glob, I.bult, I.clk, ⟨_, hn, fun y vv e1 e2 => ?_⟩, fun y vv e1 e2 => ?_⟩, I.fc, I.finj, fun z c hc => ?_⟩
  · have e1' : (if y = x then some v else ρ y) = some vv := e1
    by_cases hy : y = x
    · subst hy
      rw [if_pos rfl] at e1'
      cases e1'
      refine ⟨u, if_pos rfl, r.wrote w5 K.same fun sp hsp a ha => ?_⟩
      simpa using (own_off I.wnodup hsp ha).1
    · rw [if_neg hy] at e1'
      obtain ⟨u', a, b⟩ := hmv y vv e1' e2
      refine ⟨u', (if_neg fun q => hy (ofString_inj q)).trans a, b.wrote w5 K.same fun sp hsp a ha => ?_⟩
      simpa using (own_off I.wnodup hsp ha).1
  · have hy : y ≠ x := fun q => by rw [q, hk] at e2; cases e2
    have e1' : (if y = x then some v else ρ y) = some vv := e1
    rw [if_neg hy] at e1'
    obtain ⟨c, u', a, b, d⟩ := I.cell y vv e1' e2
    obtain ⟨c', a', hc'⟩ := I.fc y e2
    rw [a] at a'; cases a'
    refine ⟨c, u', a, b.sameBut hs (hne c hc'), d.wrote w5 K.same fun sp hsp a ha => ?_⟩
    simpa using (own_off I.wnodup hsp ha).1
  · obtain ⟨q, v, hv⟩ := I.cello z c hc
    exact ⟨q, v, hv.sameBut hs (hne c q)⟩
/-- a cell is bound to a value -/
theorem InS.setC (I : InS prog w hb s₀ X env C ρ O s) {x : String} {u : Value} {v : VV} {c : Addr} {h' : Heap} {tk : Nat} (hk : env.kindOf (Str.ofString x) = some .cell) (hc : env.cells.lookup (Str.ofString x) = some c)
    (hn : h'.IsCell c (some u)) (hs : Heap.SameBut c s.heap h') (r : RepVV prog w s₀.heap (WW env C O) O s.heap x u v) :
    InS prog w hb s₀ X env C (ρ.set x v) O { s with heap := h', toks := tk } := by
  have hcC : c ∈ C := by
    obtain ⟨c', a, b⟩ := I.fc x hk
    rw [hc] at a; cases a; exact b
  have K : Wrote [c] (WW env C O) s.heap h' := by
    refine ⟨fun a ha => by rw [List.mem_singleton.mp ha]; exact List.mem_cons_of_mem _ (List.mem_append_left _ hcC), fun b o e hb' => (hs.2 b (by simpa using hb')).trans e, fun a ha => ?_⟩
    rw [List.mem_singleton.mp ha]
    obtain ⟨o, ho, hd⟩ := hn
    refine ⟨o, ho, fun ⟨vs, k, q⟩ => ?_⟩
    rw [q] at hd; cases hd
  obtain ⟨w1, w2, w3, w4, w5⟩ := I.toInF.wrote K
  obtain ⟨h0, t0, e0⟩ := I.same
  have hL : env.locals ≠ c := fun e => by
    have := I.wnodup
    unfold WW at this
    rw [List.nodup_cons] at this
    exact this.1 (e ▸ List.mem_append_left _ hcC)
  refine ⟨⟨⟨h', tk, by rw [e0]⟩, w1, w2, w3, w4, I.wfresh, I.wnodup, I.kind, I.glob, I.bult, I.clk, ?_, fun y vv e1 e2 => ?_⟩, I.fc, I.finj, fun z d hd => ?_⟩
  · obtain ⟨m, hm, hv⟩ := I.ns
    refine ⟨m, hm.sameBut hs hL, fun y vv e1 e2 => ?_⟩
    have hy : y ≠ x := fun q => by rw [q, hk] at e2; cases e2
    have e1' : (if y = x then some v else ρ y) = some vv := e1
    rw [if_neg hy] at e1'
    obtain ⟨u', a, b⟩ := hv y vv e1' e2
    refine ⟨u', a, b.wrote w5 K.same fun sp hsp a ha => ?_⟩
    intro q
    exact (own_off I.wnodup hsp ha).2 ((List.mem_singleton.mp q) ▸ hcC)
  · have e1' : (if y = x then some v else ρ y) = some vv := e1
    by_cases hy : y = x
    · subst hy
      rw [if_pos rfl] at e1'
      cases e1'
      refine ⟨c, u, hc, hn, r.wrote w5 K.same fun sp hsp a ha q => ?_⟩
      exact (own_off I.wnodup hsp ha).2 ((List.mem_singleton.mp q) ▸ hcC)
    · rw [if_neg hy] at e1'
      obtain ⟨d, u', a, b, e⟩ := I.cell y vv e1' e2
      refine ⟨d, u', a, b.sameBut hs (fun q => ?_), e.wrote w5 K.same fun sp hsp a ha q => ?_⟩
      · exact hy (ofString_inj (I.finj _ _ _ (q ▸ a) hc))
      · exact (own_off I.wnodup hsp ha).2 ((List.mem_singleton.mp q) ▸ hcC)
  · obtain ⟨hq, v, hv⟩ := I.cello z d hd
    refine ⟨hq, ?_⟩
    by_cases q : d = c
    · exact ⟨some u, q ▸ hn⟩
    · exact ⟨v, hv.sameBut hs q⟩
/-- a name is bound to a value -/
theorem InS.store {A : Around} {E : Value → Shared → Prop} {Q : Unit → Shared → Prop} (I : InS prog w hb s₀ X env C ρ O s) {x : String} {u : Value} {v : VV} (hk : isVar env.scope x = true) (r : RepVV prog w s₀.heap (WW env C O) O s.heap x u v)
    (hQ : ∀ s', InS prog w hb s₀ X env C (ρ.set x v) O s' → Step s.heap s'.heap (WW env C O) (WW env C O) → Q () s') : wpAny (model prog w) A (storeName env (Str.ofString x) u) Q E s := by
  simp only [isVar, Bool.and_eq_true, Bool.or_eq_true, decide_eq_true_eq] at hk
  rcases hk.1 with hk | hk
  · obtain ⟨m, hm, hv⟩ := I.ns
    exact wpAny_storeName_local hk hm (fun h' hn hs => hQ _ (I.setL hk hv hn hs r) ⟨fun b o e hb' => (hs.2 b fun q => hb' (q ▸ .head _)).trans e, fun _ h => .inl h⟩) (by rw [I.kind]; rfl)
  · obtain ⟨c, hc, hcC⟩ := I.fc x hk
    obtain ⟨_, v₀, hv₀⟩ := I.cello _ c hc
    exact wpAny_storeName_cell I.kind hk hc hv₀ fun h' hn hs => hQ _ (I.setC (tk := s.toks) hk hc hn hs r) ⟨fun b o e hb' => (hs.2 b fun q => hb' (q ▸ List.mem_cons_of_mem _ (List.mem_append_left _ hcC))).trans e, fun _ h => .inl h⟩

noncomputable def Rho.del (ρ : Rho) (x : String) : Rho := fun y => if y = x then none else ρ y
theorem del_set (ρ : Rho) (x : String) (v : VV) : (ρ.del x).set x v = ρ.set x v := by
  funext y
  by_cases h : y = x <;> simp [Rho.del, Rho.set, h]
theorem FlOk.more {s₀ h : Heap} {W : List Addr} {a : Addr} {f : Fl} {as : List Addr} (o : FlOk s₀ W f as) (al : ∀ b ∈ as, ∃ ob, h.get? b = some ob) (ha : h.get? a = none) {W' : List Addr} (hW : ∀ b, b ∈ W' → b = a ∨ b ∈ W) : FlOk s₀ W' f as := by
  have ne : ∀ b ∈ as, b ≠ a := fun b hb e => by
    obtain ⟨ob, q⟩ := al b hb
    rw [e, ha] at q; cases q
  cases f with
  | d => exact fun b hb => ⟨(o b hb).1, fun hw => (hW b hw).elim (ne b hb) (o b hb).2⟩
  | s => exact fun b hb hw => (hW b hw).elim (ne b hb) (o b hb)
  | t => trivial
theorem RepVV.more {s₀ h : Heap} {W W' : List Addr} {O : List (String × List Addr)} {a : Addr} {x y : String} {u : Value} {vv : VV} (r : RepVV prog w s₀ W O h y u vv) (ha : h.get? a = none) (hW : ∀ b, b ∈ W' → b = a ∨ b ∈ W) (hy : y ≠ x) :
    RepVV prog w s₀ W' ((x, [a]) :: O) h y u vv := by
  cases vv with
  | val v =>
    obtain ⟨f, as, r, c, o⟩ := r
    exact ⟨f, as, r, c, o.more r.alive ha hW⟩
  | own o =>
    obtain ⟨sp, e, r⟩ := r
    have hyx : (y == x) = false := by simpa using hy
    refine ⟨sp, by rw [List.lookup_cons, hyx]; exact e, ?_⟩
    cases r with
    | lst a1 b c d => exact .lst a1 b c (d.more b.alive ha hW)
    | dct a1 g e' b c d => exact .dct a1 g e' b c (d.more b.alive ha hW)
    | tree a b c => exact .tree a b c
/-- a new object that the name x is going to own -/
theorem InS.pushOwn (I : InS prog w hb s₀ X env C ρ O s) (x : String) {o : Obj} (ho : ¬ Tup o) (hfree : o.isFreed = false) :
    InS prog w hb s₀ X env C (ρ.del x) ((x, [s.heap.objs.size]) :: O) { s with heap := s.heap.push o } := by
  have hnone : s.heap.get? s.heap.objs.size = none := get?_size_none _ (Nat.le_refl _)
  have hW : ∀ b, b ∈ WW env C ((x, [s.heap.objs.size]) :: O) → b = s.heap.objs.size ∨ b ∈ WW env C O := by
    intro b hb'
    simp only [WW, List.flatMap_cons, List.mem_cons, List.mem_append, List.not_mem_nil, or_false] at hb' ⊢
    rcases hb' with h | h | h | h
    · exact .inr (.inl h)
    · exact .inr (.inr (.inl h))
    · exact .inl h
    · exact .inr (.inr (.inr h))
  have g := Grow.push s.heap o
  have new := Heap.get?_push_size s.heap hfree
  obtain ⟨fr1, fr2⟩ := I.toInF.fresh hnone
  have I' := I.grow (keeps_push s o)
  refine ⟨⟨I'.same, I'.base, I'.keep, I'.alive, fun a ha => ?_, fun a ha => ?_, ?_, I.kind, I.glob, I.bult, I.clk, ?_, fun y vv e1 e2 => ?_⟩, I.fc, I.finj, I'.cello⟩
  · rcases hW a ha with rfl | ha
    · exact ⟨o, new, ho⟩
    · exact I'.walive a ha
  · rcases hW a ha with rfl | ha
    · refine ⟨?_, fun _ => fr1⟩
      cases e : hb.get? s.heap.objs.size with
      | none => rfl
      | some o' => rw [I.base.grow _ _ e] at hnone; cases hnone
    · exact I.wfresh a ha
  · have q : (s.heap.objs.size :: WW env C O).Nodup := List.nodup_cons.mpr ⟨fr2, I.wnodup⟩
    refine List.Perm.nodup ?_ q
    unfold WW
    rw [List.flatMap_cons]
    exact (List.Perm.swap ..).trans (List.Perm.cons _ List.perm_middle.symm)
  · obtain ⟨m, hm, hv⟩ := I.ns
    refine ⟨m, hm.push o, fun y vv e1 e2 => ?_⟩
    have e1' : (if y = x then none else ρ y) = some vv := e1
    by_cases hy : y = x
    · rw [if_pos hy] at e1'; cases e1'
    · rw [if_neg hy] at e1'
      obtain ⟨u, a, b⟩ := hv y vv e1' e2
      exact ⟨u, a, (b.more hnone hW hy).grow g⟩
  · have e1' : (if y = x then none else ρ y) = some vv := e1
    by_cases hy : y = x
    · rw [if_pos hy] at e1'; cases e1'
    · rw [if_neg hy] at e1'
      obtain ⟨c, u, a, b, d⟩ := I.cell y vv e1' e2
      exact ⟨c, u, a, isCell_grow b g, (d.more hnone hW hy).grow g⟩
theorem push_step {o : Obj} (x : String) : Step s.heap (s.heap.push o) (WW env C O) (WW env C ((x, [s.heap.objs.size]) :: O)) := by
  refine ⟨fun b ob e _ => Heap.get?_push_of_some o e, fun b hb' => ?_⟩
  simp only [WW, List.flatMap_cons, List.mem_cons, List.mem_append, List.not_mem_nil, or_false] at hb' ⊢
  rcases hb' with h | h | h | h
  · exact .inl (.inl h)
  · exact .inl (.inr (.inl h))
  · exact .inr (h ▸ get?_size_none _ (Nat.le_refl _))
  · exact .inl (.inr (.inr h))
end
end Mine

/-! text PF6 -/
set_option autoImplicit false
namespace Mine
open PySem PySem.Calls
variable {prog : Program} {w : World} {hb : Heap} {n : Nat} {sc : Scope}

section
variable {s₀ s : Shared} {X : List Addr} {env : Env} {C : List Addr} {ρ : Rho} {O : List (String × List Addr)}
/-- what a name owns is changed -/
theorem InS.updOwn (I : InS prog w hb s₀ X env C ρ O s) {x : String} {o o' : Own} {a : Addr} {h' : Heap} {tk : Nat} (hx : ρ x = some (.own o)) (hO : O.lookup x = some [a]) (hs : Heap.SameBut a s.heap h')
    (ht : ∃ ob, h'.get? a = some ob ∧ ¬ Tup ob) (hup : ∀ u, RepO prog w s₀.heap (WW env C O) s.heap u o [a] → Off (WW env C O) s.heap h' → RepO prog w s₀.heap (WW env C O) h' u o' [a]) :
    InS prog w hb s₀ X env C (ρ.set x (.own o')) O { s with heap := h', toks := tk } := by
  have haW : a ∈ WW env C O := own_sub hO (.head _)
  have K : Wrote [a] (WW env C O) s.heap h' :=
    ⟨fun b hb' => by rw [List.mem_singleton.mp hb']; exact haW, fun b ob e hb' => (hs.2 b (by simpa using hb')).trans e, fun b hb' => by rw [List.mem_singleton.mp hb']; exact ht⟩
  obtain ⟨w1, w2, w3, w4, w5⟩ := I.toInF.wrote K
  obtain ⟨h0, t0, e0⟩ := I.same
  obtain ⟨hL, hC⟩ := own_off I.wnodup hO (a := a) (.head _)
  have other : ∀ y, y ≠ x → ∀ sp, O.lookup y = some sp → ∀ b ∈ sp, b ∉ [a] := by
    intro y hy sp hsp b hb' hq
    rw [List.mem_singleton] at hq
    subst hq
    have m1 := lookup_mem hO
    have m2 := lookup_mem hsp
    have nd : (O.flatMap (·.2)).Nodup := by
      have := I.wnodup
      unfold WW at this
      rw [List.nodup_cons, List.nodup_append] at this
      exact this.2.2.1
    clear hO hsp K w1 w2 w3 w4 w5 I ht hup haW hx e0
    induction O with
    | nil => cases m1
    | cons p O ih =>
      rw [List.flatMap_cons, List.nodup_append] at nd
      rcases List.mem_cons.mp m1 with e1 | m1 <;> rcases List.mem_cons.mp m2 with e2 | m2
      · rw [← e1] at e2; exact hy (congrArg Prod.fst e2)
      · exact nd.2.2 b (by rw [← e1]; exact .head _) b (List.mem_flatMap.mpr ⟨_, m2, hb'⟩) rfl
      · exact nd.2.2 b (by rw [← e2]; exact hb') b (List.mem_flatMap.mpr ⟨_, m1, .head _⟩) rfl
      · exact ih m1 m2 nd.2.1
  refine ⟨⟨⟨h', tk, by rw [e0]⟩, w1, w2, w3, w4, I.wfresh, I.wnodup, I.kind, I.glob, I.bult, I.clk, ?_, fun y vv e1 e2 => ?_⟩, I.fc, I.finj, fun z c hc => ?_⟩
  · obtain ⟨m, hm, hv⟩ := I.ns
    refine ⟨m, hm.sameBut hs (Ne.symm hL), fun y vv e1 e2 => ?_⟩
    have e1' : (if y = x then some (VV.own o') else ρ y) = some vv := e1
    by_cases hy : y = x
    · subst hy
      rw [if_pos rfl] at e1'; cases e1'
      obtain ⟨u, b, sp, d, r⟩ := hv y _ hx e2
      rw [hO] at d; cases d
      exact ⟨u, b, [a], hO, hup u r w5⟩
    · rw [if_neg hy] at e1'
      obtain ⟨u, b, r⟩ := hv y vv e1' e2
      exact ⟨u, b, r.wrote w5 K.same (other y hy)⟩
  · have e1' : (if y = x then some (VV.own o') else ρ y) = some vv := e1
    obtain ⟨c, hc, hcC⟩ := I.fc y e2
    have hca : c ≠ a := fun q => hC (q ▸ hcC)
    by_cases hy : y = x
    · subst hy
      rw [if_pos rfl] at e1'; cases e1'
      obtain ⟨c', u, b1, b2, sp, d, r⟩ := I.cell y _ hx e2
      rw [hc] at b1; cases b1
      rw [hO] at d; cases d
      exact ⟨c, u, hc, b2.sameBut hs hca, [a], hO, hup u r w5⟩
    · rw [if_neg hy] at e1'
      obtain ⟨c', u, b1, b2, r⟩ := I.cell y vv e1' e2
      rw [hc] at b1; cases b1
      exact ⟨c, u, hc, b2.sameBut hs hca, r.wrote w5 K.same (other y hy)⟩
  · obtain ⟨q', v, hv⟩ := I.cello z c hc
    exact ⟨q', v, hv.sameBut hs fun q => hC (q ▸ q')⟩
/-- what an owning name holds -/
theorem InS.owned (I : InS prog w hb s₀ X env C ρ O s) {x : String} {o : Own} {pos : Pos} {A : Around} {E : Value → Shared → Prop} {Q : Value → Shared → Prop} (hv : isVar env.scope x = true) (hx : ρ x = some (.own o)) (ho : ∀ a d, o ≠ .tree a d)
    (hQ : ∀ a, O.lookup x = some [a] → RepO prog w s₀.heap (WW env C O) s.heap (.ref a) o [a] → Q (.ref a) s) : wpAny (model prog w) A (eval (.Name (Str.ofString x) pos) env) Q E s := by
  simp only [isVar, Bool.and_eq_true, Bool.or_eq_true, decide_eq_true_eq, Bool.not_eq_true'] at hv
  obtain ⟨hv, hd⟩ := hv
  have fin : ∀ u sp, O.lookup x = some sp → RepO prog w s₀.heap (WW env C O) s.heap u o sp → Q u s := by
    intro u sp e r
    cases r with
    | lst a b c d => exact hQ _ e (.lst a b c d)
    | dct a g e' b c d => exact hQ _ e (.dct a g e' b c d)
    | tree a b c => exact absurd rfl (ho _ _)
  rcases hv with hv | hv
  · obtain ⟨m, hns, hm⟩ := I.ns
    obtain ⟨u, hu, sp, e, r⟩ := hm x _ hx hv
    exact wpAny_Name (wpAny_loadName_local I.kind hv hns hu (fin u sp e r)) hd
  · obtain ⟨c, u, hc, hu, sp, e, r⟩ := I.cell x _ hx hv
    exact wpAny_Name (wpAny_loadName_cell I.kind hv hc hu (fin u sp e r)) hd
end

/-! ## statements -/
noncomputable def S1 (prog : Program) (w : World) (hb : Heap) (n : Nat) (sc : Scope) (st : Stmt) (m : Rho → Option Out) : Prop :=
  ∀ ⦃A : Around⦄ ⦃env : Env⦄ ⦃s₀ : Shared⦄ ⦃X C : List Addr⦄ ⦃ρ : Rho⦄ ⦃O : List (String × List Addr)⦄ ⦃s : Shared⦄ ⦃r : Out⦄ ⦃Q : Flow → Shared → Prop⦄ ⦃E : Value → Shared → Prop⦄,
    env.scope = sc → RoomF A n → InS prog w hb s₀ X env C ρ O s → m ρ = some r → Ends prog w hb s₀ X env C O s r Q → wpAny (model prog w) A (exec st env) Q E s
theorem St.nil : St prog w hb n sc [] (fun ρ => some (.next ρ)) := by
  intro A env s₀ X C ρ O s r Q E hs hA I hm hQ
  cases hm
  exact wpAny_execs_nil (hQ O s I (Step.refl _ _))
noncomputable def thenB (m : Rho → Option Out) : Out → Option Out
  | .next ρ => m ρ
  | o => some o
theorem St.cons {st : Stmt} {rest : List Stmt} {m m' : Rho → Option Out} (h : S1 prog w hb n sc st m) (h' : St prog w hb n sc rest m') : St prog w hb n sc (st :: rest) (fun ρ => (m ρ).bind (thenB m')) := by
  intro A env s₀ X C ρ O s r Q E hs hA I hm hQ
  obtain ⟨o, ho, hm⟩ := Option.bind_eq_some_iff.mp hm
  refine wpAny_execs_cons (h hs hA I ho ?_)
  cases o with
  | next ρ' => exact fun O s' I' t => h' hs hA I' hm (hQ.trans t)
  | brk ρ' => cases hm; exact hQ
  | cont ρ' => cases hm; exact hQ
  | ret x => cases hm; exact hQ
noncomputable def putV (ρ : Rho) (x : String) (v : V) : Option Out := match v.fl with
  | .t => none
  | _ => some (.next (ρ.set x (.val v)))
theorem putV_some {ρ : Rho} {x : String} {v : V} {r : Out} (h : putV ρ x v = some r) : (v.fl = .d ∨ v.fl = .s) ∧ r = .next (ρ.set x (.val v)) := by
  unfold putV at h
  split at h
  · cases h
  · rename_i hf
    cases h
    refine ⟨?_, rfl⟩
    cases e : v.fl with
    | d => exact .inl rfl
    | s => exact .inr rfl
    | t => exact absurd e hf
theorem S1.assign {x : String} {e : Expr} {p pos : Pos} {m : Rho → Option V} (h : Ev prog w hb n sc e m) (hv : isVar sc x = true) (hsw : ∀ env : Env, env.scope = sc → swapsWith e (some (.Name (Str.ofString x) p)) pos.line env = pure false := by intro _ _; rfl) :
    S1 prog w hb n sc (.Assign [.Name (Str.ofString x) p] e pos) (fun ρ => (m ρ).bind (putV ρ x)) := by
  intro A env s₀ X C ρ O s r Q E hs hA I hm hQ
  obtain ⟨v, hv', hm⟩ := Option.bind_eq_some_iff.mp hm
  obtain ⟨hf, rfl⟩ := putV_some hm
  refine wpAny_Assign_Name (h hs hA I.toInF hv' fun u s₁ k₁ r₁ => ?_) (hsw env hs)
  exact (I.grow k₁).store (v := .val v) (by rw [hs]; exact hv) ⟨hf, r₁⟩ fun s' I' t => hQ O s' I' ((Step.of_grow (keeps_grow k₁)).trans t)
theorem S1.ret {e : Expr} {pos : Pos} {m : Rho → Option V} (h : Ev prog w hb n sc e m) : S1 prog w hb n sc (.Return (some e) pos) (fun ρ => (m ρ).bind fun v => if v.fl = .d then some (.ret v.x) else none) := by
  intro A env s₀ X C ρ O s r Q E hs hA I hm hQ
  obtain ⟨v, hv', hm⟩ := Option.bind_eq_some_iff.mp hm
  split at hm
  · rename_i hf
    cases hm
    refine wpAny_Return_some (h hs hA I.toInF hv' fun u s₁ k₁ r₁ => ?_)
    obtain ⟨as, ra, ca, oa⟩ := r₁
    rw [hf] at oa
    exact hQ u as O ρ s₁ (I.grow k₁) ra ca fun a ha => .inr (oa a ha).1
  · cases hm
/-- an owned list is handed back -/
theorem S1.retOwn {x : String} {p pos : Pos} (hv : isVar sc x = true) : S1 prog w hb n sc (.Return (some (.Name (Str.ofString x) p)) pos) (fun ρ => match ρ x with | some (.own (.lst xs)) => some (.ret (.list xs)) | _ => none) := by
  intro A env s₀ X C ρ O s r Q E hs hA I hm hQ
  dsimp only at hm
  split at hm
  · rename_i xs hx
    cases hm
    refine wpAny_Return_some (I.owned (by rw [hs]; exact hv) hx (fun _ _ q => by cases q) fun a hO r => ?_)
    cases r with
    | lst a1 b c d =>
      refine hQ _ _ O ρ s I (.list a1 b) c fun y hy => ?_
      rcases List.mem_cons.mp hy with rfl | hy
      · by_cases hX : y ∈ X
        · exact .inl hX
        · exact .inr ((I.wfresh y (own_sub hO (.head _))).2 hX)
      · exact .inr (d y hy).1
  · cases hm
theorem S1.if {t : Expr} {b o : List Stmt} {pos : Pos} {mt : Rho → Option Bool} {mb mo : Rho → Option Out} (ht : Tr prog w hb n sc t mt) (h1 : St prog w hb n sc b mb) (h2 : St prog w hb n sc o mo) :
    S1 prog w hb n sc (.If t b o pos) (fun ρ => (mt ρ).bind fun c => if c then mb ρ else mo ρ) := by
  intro A env s₀ X C ρ O s r Q E hs hA I hm hQ
  obtain ⟨c, hc, hm⟩ := Option.bind_eq_some_iff.mp hm
  refine wpAny_If (ht hs hA I.toInF hc fun s₁ k₁ => ?_)
  cases c with
  | true => exact h1 hs hA (I.grow k₁) hm (hQ.trans (Step.of_grow (keeps_grow k₁)))
  | false => exact h2 hs hA (I.grow k₁) hm (hQ.trans (Step.of_grow (keeps_grow k₁)))
end Mine

/-! text PF7 -/
set_option autoImplicit false
namespace Mine
open PySem PySem.Calls
variable {prog : Program} {w : World} {hb : Heap} {n : Nat} {sc : Scope}

theorem not_tup_lst (vs : List Value) (k : Nat) : ¬ Tup (lstObj vs k) := by
  rintro ⟨_, _, q⟩
  have := congrArg Obj.cls q
  simp at this
theorem not_tup_dct {o : Obj} (h : o.cls = .type "dict") : ¬ Tup o := by
  rintro ⟨_, _, q⟩
  have := congrArg Obj.cls q
  rw [h] at this
  simp at this
theorem upd_step {O : List (String × List Addr)} {env : Env} {C : List Addr} {x : String} {a : Addr} {h h' : Heap} (hO : O.lookup x = some [a]) (hs : Heap.SameBut a h h') : Step h h' (WW env C O) (WW env C O) :=
  ⟨fun b o e hb' => (hs.2 b fun q => hb' (q ▸ own_sub hO (.head _))).trans e, fun _ h => .inl h⟩
/-! ## names that own -/
theorem S1.ownList {x : String} {es : List Expr} {lp p pos : Pos} {ms : Rho → Option (List V)} (h : Evs prog w hb n sc es ms) (hv : isVar sc x = true) :
    S1 prog w hb n sc (.Assign [.Name (Str.ofString x) p] (.List es lp) pos) (fun ρ => (ms ρ).bind fun vs => if vs.length ≤ sizeLine ∧ flsOf vs = .d then some (.next (ρ.set x (.own (.lst (vs.map (·.x)))))) else none) := by
  intro A env s₀ X C ρ O s r Q E hs hA I hm hQ
  obtain ⟨vs, hvs, hm⟩ := Option.bind_eq_some_iff.mp hm
  split at hm
  · rename_i hz
    cases hm
    refine wpAny_Assign_Name (wpAny_List (h hs hA I.toInF hvs fun us s₁ k₁ r₁ => ⟨by rw [r₁.length]; exact hz.1, ?_⟩)) rfl
    obtain ⟨as, r, c, o⟩ := r₁.rds
    rw [hz.2] at o
    have I₁ := I.grow k₁
    have I₂ := I₁.pushOwn x (o := lstObj us 0) (not_tup_lst _ _) rfl
    have hnone : s₁.heap.get? s₁.heap.objs.size = none := get?_size_none _ (Nat.le_refl _)
    refine I₂.store (v := .own (.lst (vs.map (·.x)))) (by rw [hs]; exact hv) ⟨[s₁.heap.objs.size], by rw [List.lookup_cons, beq_self_eq_true], ?_⟩ fun s' I' t => hQ _ s' (by rw [← del_set]; exact I') ((Step.of_grow (keeps_grow k₁)).trans ((push_step x).trans t))
    refine .lst (as := as) (Heap.get?_push_size _ rfl) (r.grow (Grow.push _ _)) (wf_list.mpr ⟨by simpa using hz.1, c⟩) (o.more r.alive hnone fun b hb' => ?_)
    simp only [WW, List.flatMap_cons, List.mem_cons, List.mem_append, List.not_mem_nil, or_false] at hb' ⊢
    rcases hb' with h | h | h | h
    · exact .inr (.inl h)
    · exact .inr (.inr (.inl h))
    · exact .inl h
    · exact .inr (.inr (.inr h))
  · cases hm
theorem S1.ownDict {x : String} {lp p pos : Pos} (hv : isVar sc x = true) :
    S1 prog w hb n sc (.Assign [.Name (Str.ofString x) p] (.Dict [] [] lp) pos) (fun ρ => some (.next (ρ.set x (.own (.dct []))))) := by
  intro A env s₀ X C ρ O s r Q E hs hA I hm hQ
  cases hm
  refine wpAny_Assign_Name (wpAny_Dict_empty ?_) rfl
  have I₂ := I.pushOwn x (o := { cls := .type "dict", data := .dict #[] }) (not_tup_dct rfl) rfl
  have hmod : (s.heap.objs.size == sysModules) = false := by
    obtain ⟨o, ho⟩ := I.base.mods
    have := Heap.lt_size (I.base.grow _ _ ho)
    simpa using (Nat.ne_of_gt this)
  refine I₂.store (v := .own (.dct [])) (by rw [hs]; exact hv) ⟨[s.heap.objs.size], by rw [List.lookup_cons, beq_self_eq_true], ?_⟩ fun s' I' t => hQ _ s' (by rw [← del_set]; exact I') ((push_step x).trans t)
  exact .dct (kvs := []) (as := []) (Heap.DictOf.new _) hmod rfl .nil (by decide) FlOk.nil
theorem mapSeq_lst (vs : List Value) (k : Nat) (f : Array Value → Array Value) : ∃ k', Obj.mapSeq f (lstObj vs k) = lstObj (f vs.toArray).toList k' := ⟨_, rfl⟩
theorem S1.append {x : String} {e : Expr} {p ap cp pos : Pos} {m : Rho → Option V} (h : Ev prog w hb n sc e m) (hv : isVar sc x = true) (he : ∀ env, starEach [e] env = [(false, eval e env)] := by intro _; rfl) (hl : (ap.endLine == cp.line) = true := by rfl)
    (hi : ∀ env : Env, env.scope = sc → interactive env = false := by intro env h; unfold interactive; rw [h]; rfl) :
    S1 prog w hb n sc (.Expr (.Call (.Attribute (.Name (Str.ofString x) p) (Str.ofString "append") ap) [e] [] cp) pos)
      (fun ρ => match ρ x with | some (.own (.lst xs)) => (m ρ).bind fun v => if v.fl = .d ∧ xs.length + 1 ≤ sizeLine then some (.next (ρ.set x (.own (.lst (xs ++ [v.x]))))) else none | _ => none) := by
  intro A env s₀ X C ρ O s r Q E hs hA I hm hQ
  dsimp only at hm
  split at hm
  · rename_i xs hx
    obtain ⟨v, hv', hm⟩ := Option.bind_eq_some_iff.mp hm
    split at hm
    · rename_i hz
      cases hm
      refine wpAny_Expr (wpAny_Call_method rfl (by rw [he]; rfl) hl F.plainAttrs_list F.slot_list_append F.type_list_append (I.owned (by rw [hs]; exact hv) hx (fun _ _ q => by cases q) fun a hO r => ?_)) (hi env hs)
      cases r with
      | lst a1 b c d =>
        rename_i vs k as
        refine ⟨⟨_, a1, rfl⟩, fun a' ea => by cases ea; exact ⟨_, a1, rfl⟩, ?_⟩
        rw [he]
        show wpAny _ _ (callWith cp (.builtin "list.append") [.ref a] [(false, eval e env)] []) _ _ _
        refine P.append_list (h hs hA I.toInF hv' fun u s₁ k₁ r₁ => ?_)
        have I₁ := I.grow k₁
        have a1' := keeps_grow k₁ _ _ a1
        rw [wf_list] at c
        have hlen := b.length
        refine ⟨vs.toArray, k, by simp [hlen]; exact c.1, a1', ?_⟩
        obtain ⟨k', ek⟩ := mapSeq_lst vs k (fun xs => xs.push u)
        have hnew : (s₁.heap.update a (Obj.mapSeq fun xs => xs.push u)).get? a = some (lstObj (vs ++ [u]) k') := by
          rw [Heap.get?_update_self _ a1' rfl, ek]; simp
        refine hQ O _ (I₁.updOwn (tk := s₁.toks) hx hO (Heap.SameBut.update _ _ _) ⟨_, hnew, not_tup_lst _ _⟩ fun u' r' off => ?_) ((Step.of_grow (keeps_grow k₁)).trans (upd_step hO (Heap.SameBut.update _ _ _)))
        obtain ⟨bs, rv, cv, ov⟩ := r₁
        rw [hz.1] at ov
        cases r' with
        | lst a2 b2 c2 d2 =>
          refine .lst (as := as ++ (bs ++ [])) hnew (((b.grow (keeps_grow k₁)).off off fun y hy => (d y hy).2).append (.cons (rv.off off fun y hy => (ov y hy).2) .nil)) (wf_list.mpr ⟨by simpa using hz.2, ?_⟩) ?_
          · rw [wfs_append, c.2]; simp [wfs, cv]
          · rw [List.append_nil]; exact FlOk.append d ov
    · cases hm
  · cases hm

noncomputable def putKey (kvs : List (Str × PyData)) (k : Str) (v : PyData) : List (Str × PyData) :=
  if kvs.any (fun p => p.1 = k) then kvs.map (fun p => if p.1 = k then (p.1, v) else p) else kvs ++ [(k, v)]
theorem any_keys {β γ : Type} (k : Str) : ∀ {kvs : List (Str × β)} {xs : List (Str × γ)}, kvs.map (·.1) = xs.map (·.1) → kvs.any (fun p => decide (p.1 = k)) = xs.any (fun p => decide (p.1 = k))
  | [], [], _ => rfl
  | [], _ :: _, h => by simp at h
  | _ :: _, [], h => by simp at h
  | p :: kvs, q :: xs, h => by
    simp only [List.map_cons, List.cons.injEq] at h
    simp only [List.any_cons, any_keys k h.2, h.1]
theorem stored_rds {h : Heap} {k : Str} {v : Value} {x : PyData} {bs : List Addr} (rv : RD prog w h v x bs) : ∀ {kvs : List (Str × Value)} {xs : List (Str × PyData)} {as : List Addr}, kvs.map (·.1) = xs.map (·.1) → RDs prog w h (kvs.map (·.2)) (xs.map (·.2)) as →
    ∃ cs, RDs prog w h ((kvs.map (fun kv => if kv.1 = k then (kv.1, v) else kv)).map (·.2)) ((xs.map (fun p => if p.1 = k then (p.1, x) else p)).map (·.2)) cs ∧ (∀ c ∈ cs, c ∈ as ∨ c ∈ bs) ∧
      (kvs.map (fun kv => if kv.1 = k then (kv.1, v) else kv)).map (·.1) = (xs.map (fun p => if p.1 = k then (p.1, x) else p)).map (·.1)
  | [], [], as, _, r => ⟨as, r, fun _ h => .inl h, rfl⟩
  | [], _ :: _, _, h, _ => by simp at h
  | _ :: _, [], _, h, _ => by simp at h
  | p :: kvs, q :: xs, _, h, r => by
    simp only [List.map_cons, List.cons.injEq] at h
    cases r with
    | cons r1 r2 =>
      rename_i a1 a2
      obtain ⟨cs, e1, e2, e3⟩ := stored_rds rv h.2 r2
      by_cases hk : q.1 = k
      · refine ⟨bs ++ cs, ?_, ?_, ?_⟩
        · simp only [List.map_cons, h.1, hk, if_true]; exact .cons rv e1
        · intro c hc
          rcases List.mem_append.mp hc with hc | hc
          · exact .inr hc
          · exact (e2 c hc).imp (List.mem_append_right _) id
        · simp only [List.map_cons, h.1, hk, if_true, e3]
      · refine ⟨a1 ++ cs, ?_, ?_, ?_⟩
        · simp only [List.map_cons, h.1, hk, if_false]; exact .cons r1 e1
        · intro c hc
          rcases List.mem_append.mp hc with hc | hc
          · exact .inl (List.mem_append_left _ hc)
          · exact (e2 c hc).imp (List.mem_append_right _) id
        · simp only [List.map_cons, h.1, hk, if_false, e3]
theorem wfk_dictOf : ∀ (xs : List (Str × PyData)), wfk (xs.map fun p => (.str p.1, p.2)) = true ↔ ∀ p ∈ xs, wf (.str p.1) = true ∧ wf p.2 = true
  | [] => by simp [wfk]
  | p :: xs => by simp [wfk, wfk_dictOf xs]
theorem wf_dictOf {xs : List (Str × PyData)} : wf (dictOf xs) = true ↔ xs.length ≤ sizeLine ∧ ∀ p ∈ xs, wf (.str p.1) = true ∧ wf p.2 = true := by
  simp only [wf, dictOf, Bool.and_eq_true, decide_eq_true_eq, List.length_map, wfk_dictOf]
theorem wf_putKey {xs : List (Str × PyData)} {k : Str} {v : PyData} (h : wf (dictOf xs) = true) (hk : wf (.str k) = true) (hv : wf v = true) (hz : xs.length + 1 ≤ sizeLine) : wf (dictOf (putKey xs k v)) = true := by
  rw [wf_dictOf] at h ⊢
  unfold putKey
  split
  · refine ⟨by simpa using h.1, fun p hp => ?_⟩
    obtain ⟨q, hq, rfl⟩ := List.mem_map.mp hp
    split
    · exact ⟨(h.2 q hq).1, hv⟩
    · exact h.2 q hq
  · refine ⟨by simpa using hz, fun p hp => ?_⟩
    rcases List.mem_append.mp hp with hp | hp
    · exact h.2 p hp
    · rw [List.mem_singleton.mp hp]; exact ⟨hk, hv⟩
theorem S1.setKey {x : String} {i e : Expr} {np p pos : Pos} {mi m : Rho → Option V} (hi : Ev prog w hb n sc i mi) (h : Ev prog w hb n sc e m) (hv : isVar sc x = true) (hsw : ∀ env : Env, swapsWith e (some (.Subscript (.Name (Str.ofString x) np) i p)) pos.line env = pure false := by intro _; rfl) :
    S1 prog w hb n sc (.Assign [.Subscript (.Name (Str.ofString x) np) i p] e pos)
      (fun ρ => match ρ x with | some (.own (.dct kvs)) => (m ρ).bind fun v => (mi ρ).bind fun k => (match k.x with | .str key => if v.fl = .d ∧ kvs.length + 1 ≤ sizeLine then some (.next (ρ.set x (.own (.dct (putKey kvs key v.x))))) else none | _ => none) | _ => none) := by
  intro A env s₀ X C ρ O s r Q E hs hA I hm hQ
  dsimp only at hm
  split at hm
  · rename_i kvs hx
    obtain ⟨v, hv', hm⟩ := Option.bind_eq_some_iff.mp hm
    obtain ⟨⟨kx, kf⟩, hk', hm⟩ := Option.bind_eq_some_iff.mp hm
    dsimp only at hm
    split at hm
    · rename_i key
      split at hm
      · rename_i hz
        cases hm
        refine wpAny_Assign_Subscript (h hs hA I.toInF hv' fun u s₁ k₁ r₁ => (I.grow k₁).owned (by rw [hs]; exact hv) hx (fun _ _ q => by cases q) fun a hO r => hi hs hA (I.grow k₁).toInF hk' fun ku s₂ k₂ r₂ => ?_) (hsw env)
        have I₂ := (I.grow k₁).grow k₂
        have r := r.grow (keeps_grow k₂)
        have r₁ := r₁.grow (keeps_grow k₂)
        obtain ⟨cs, rk, ck, ok⟩ := r₂
        cases rk
        cases r with
        | dct a1 g b c d e' =>
          rename_i kvs' as
          have hlen : kvs'.length = kvs.length := by simpa using congrArg List.length b
          have hd := wf_dictOf.mp d
          refine wpAny_setItem_pairs (knd := strKind prog w) (strKey _ _) a1 (fun h' hm' hs' => ?_) (by omega)
          have hnew : ∃ ob, h'.get? a = some ob ∧ ¬ Tup ob := by
            obtain ⟨o, es, ep, ho, hx, _⟩ := hm'
            exact ⟨o, ho, not_tup_dct hx.1⟩
          refine hQ O _ (I₂.updOwn hx hO hs' hnew fun u' r' off => ?_) ((Step.of_grow (Grow.trans (keeps_grow k₁) (keeps_grow k₂))).trans (upd_step hO hs'))
          obtain ⟨bs, rv, cv, ov⟩ := r₁
          rw [hz.1] at ov
          cases r' with
          | dct a2 g2 b2 c2 d2 e2 =>
            have c' := c.off off fun y hy => (e' y hy).2
            have rv' := rv.off off fun y hy => (ov y hy).2
            have wfn := wf_putKey d ck cv hz.2
            have ha := any_keys key b
            unfold stored at hm'
            unfold putKey at wfn ⊢
            cases hq : kvs.any (fun p => decide (p.1 = key)) with
            | true =>
              rw [hq] at ha
              simp only [ha, if_true] at hm'
              simp only [hq, if_true] at wfn ⊢
              obtain ⟨cs', q1, q2, q3⟩ := stored_rds (k := key) rv' b c'
              exact .dct hm' g q3 q1 wfn fun y hy => (q2 y hy).elim (e' y) (ov y)
            | false =>
              rw [hq] at ha
              simp only [ha, Bool.false_eq_true, if_false] at hm'
              simp only [hq, Bool.false_eq_true, if_false] at wfn ⊢
              refine .dct (as := as ++ (bs ++ [])) hm' g (by simp [b]) ?_ wfn ?_
              · rw [List.map_append, List.map_append]; exact c'.append (.cons rv' .nil)
              · rw [List.append_nil]; exact FlOk.append e' ov
      · cases hm
    · cases hm
  · cases hm
end Mine

/-! text PF8 -/
set_option autoImplicit false
namespace Mine
open PySem PySem.Calls
variable {prog : Program} {w : World} {hb : Heap} {n : Nat} {sc : Scope}

/-! ## iterators move -/
/-- what is no iterator's record stays -/
noncomputable def Inert (h h' : Heap) : Prop := ∀ b o, h.get? b = some o → (∀ fs, o.data ≠ .fields fs) → h'.get? b = some o
section
variable {h h' : Heap}
theorem inert_both (k : Inert h h') : (∀ {v x as}, RD prog w h v x as → RD prog w h' v x as) ∧ ∀ {vs xs as}, RDs prog w h vs xs as → RDs prog w h' vs xs as :=
  RD.both .none .bool .int .str (fun a _ r => .list (k _ _ a fun _ q => by cases q) r) (fun a _ r => .tuple (k _ _ a fun _ q => by cases q) r)
    (fun q g e _ r => .dict (by obtain ⟨o, es, ep, ho, q1, q2, q⟩ := q; exact ⟨o, es, ep, k _ _ ho (fun _ z => by rw [q2] at z; cases z), q1, q2, q⟩) g e r) .nil (fun _ _ a r => .cons a r)
theorem RD.inert (k : Inert h h') {v : Value} {x : PyData} {as : List Addr} (r : RD prog w h v x as) : RD prog w h' v x as := (inert_both k).1 r
theorem RDs.inert (k : Inert h h') {vs : List Value} {xs : List PyData} {as : List Addr} (r : RDs prog w h vs xs as) : RDs prog w h' vs xs as := (inert_both k).2 r
theorem Rep.inert {s₀ : Heap} {W : List Addr} {u : Value} {v : V} (r : Rep prog w s₀ W h u v) (k : Inert h h') : Rep prog w s₀ W h' u v := by
  obtain ⟨as, r, c⟩ := r; exact ⟨as, r.inert k, c⟩
theorem RepVV.inert {s₀ : Heap} {W : List Addr} {O : List (String × List Addr)} {x : String} {u : Value} {v : VV} (r : RepVV prog w s₀ W O h x u v) (k : Inert h h') : RepVV prog w s₀ W O h' x u v := by
  cases v with
  | val v => exact ⟨r.1, r.2.inert k⟩
  | own o =>
    obtain ⟨sp, hsp, r⟩ := r
    refine ⟨sp, hsp, ?_⟩
    clear hsp
    cases r with
    | lst a b c d => exact .lst (k _ _ a fun _ q => by cases q) (b.inert k) c d
    | dct a g e b c d =>
      obtain ⟨o, es, ep, ho, q1, q2, q⟩ := a
      exact .dct ⟨o, es, ep, k _ _ ho (fun _ z => by rw [q2] at z; cases z), q1, q2, q⟩ g e (b.inert k) c d
    | tree a b c => exact .tree (a.inert k) b c
theorem Inert.of {wr : List Addr} (hin : ∀ b ∈ wr, ∃ o fs, h.get? b = some o ∧ o.data = .fields fs) (k : ∀ b o, b ∉ wr → h.get? b = some o → h'.get? b = some o) : Inert h h' := by
  intro b o e hd
  refine k b o (fun hw => ?_) e
  obtain ⟨o', fs, e', d⟩ := hin b hw
  rw [e] at e'; cases e'; exact hd fs d
end
section
variable {s₀ s : Shared} {X : List Addr} {env : Env} {C : List Addr} {ρ : Rho} {O : List (String × List Addr)}
theorem InF.iter (I : InF prog w hb s₀ X env C ρ O s) {wr : List Addr} {h' : Heap} {tk : Nat} (hin : ∀ b ∈ wr, ∃ o fs, s.heap.get? b = some o ∧ o.data = .fields fs) (hfr : ∀ b ∈ wr, hb.get? b = none ∧ s₀.heap.get? b = none ∧ b ∉ WW env C O)
    (k : ∀ b o, b ∉ wr → s.heap.get? b = some o → h'.get? b = some o) : InF prog w hb s₀ X env C ρ O { s with heap := h', toks := tk } := by
  have K := Inert.of hin k
  obtain ⟨h0, t0, e0⟩ := I.same
  refine ⟨⟨h', tk, by rw [e0]⟩, ⟨I.base.lim, I.base.seer, I.base.tree, I.base.mods, fun b o e => k b o (fun hw => ?_) (I.base.grow b o e)⟩, fun b o e hx => k b o (fun hw => ?_) (I.keep b o e hx), fun b o e => ?_, fun a ha => ?_, I.wfresh, I.wnodup, I.kind, I.glob, I.bult, I.clk, ?_, fun x vv e1 e2 => ?_⟩
  · rw [(hfr b hw).1] at e; cases e
  · rw [(hfr b hw).2.1] at e; cases e
  · obtain ⟨o', e'⟩ := I.alive b o e
    exact ⟨o', k b o' (fun hw => by rw [(hfr b hw).2.1] at e; cases e) e'⟩
  · obtain ⟨o, e, c⟩ := I.walive a ha
    exact ⟨o, k a o (fun hw => (hfr a hw).2.2 ha) e, c⟩
  · obtain ⟨m, hm, hv⟩ := I.ns
    refine ⟨m, ?_, fun x vv e1 e2 => ?_⟩
    · obtain ⟨o, es, ep, ho, hd, r⟩ := hm
      exact ⟨o, es, ep, K _ _ ho (fun _ z => by rw [hd] at z; cases z), hd, r⟩
    · obtain ⟨u, a, b⟩ := hv x vv e1 e2
      exact ⟨u, a, b.inert K⟩
  · obtain ⟨c, u, a, ⟨o, ho, hd⟩, d⟩ := I.cell x vv e1 e2
    exact ⟨c, u, a, ⟨o, K _ _ ho (fun _ z => by rw [hd] at z; cases z), hd⟩, d.inert K⟩
theorem InS.iter (I : InS prog w hb s₀ X env C ρ O s) {wr : List Addr} {h' : Heap} {tk : Nat} (hin : ∀ b ∈ wr, ∃ o fs, s.heap.get? b = some o ∧ o.data = .fields fs) (hfr : ∀ b ∈ wr, hb.get? b = none ∧ s₀.heap.get? b = none ∧ b ∉ WW env C O)
    (k : ∀ b o, b ∉ wr → s.heap.get? b = some o → h'.get? b = some o) : InS prog w hb s₀ X env C ρ O { s with heap := h', toks := tk } := by
  refine ⟨I.toInF.iter hin hfr k, I.fc, I.finj, fun z c hc => ?_⟩
  obtain ⟨q, v, o, ho, hd⟩ := I.cello z c hc
  exact ⟨q, v, o, Inert.of hin k _ _ ho (fun _ z => by rw [hd] at z; cases z), hd⟩
end

/-- an iterator that yields the data xs; F: the lists that may lie within; wr: its records -/
structure Stream (prog : Program) (w : World) (A : Around) (tgt : Expr) (I : Addr) (F wr : List Addr) (xs : List PyData) (S : Nat → Heap → Prop) : Prop where
  frame : ∀ i h h' W, S i h → Off W h h' → (∀ a ∈ F, a ∉ W) → (∀ b ∈ wr, b ∉ W) → S i h'
  inert : ∀ i h, S i h → ∀ b ∈ wr, ∃ o fs, h.get? b = some o ∧ o.data = .fields fs
  alive : ∀ i h, S i h → ∀ a ∈ F, ∃ o, h.get? a = some o
  turn : ∀ i x (s : Shared) (Q : Value → Shared → Prop) (E : Value → Shared → Prop), xs[i]? = some x → S i s.heap →
    (∀ v as h' tk, RD prog w h' v x as → (∀ a ∈ as, a ∈ F) → S (i + 1) h' → (∀ b o, b ∉ wr → s.heap.get? b = some o → h'.get? b = some o) → Q v { s with heap := h', toks := tk }) →
    wpAny (model prog w) A (pyNext (.ref I)) (fun r s₁ => match r with | none => False | some v => wpAny (model prog w) A (letOwnedTupleGo tgt (.ref I) v) (fun _ s₂ => Q v s₂) E s₁) E s
  done : ∀ (s : Shared) (Q : Option Value → Shared → Prop) (E : Value → Shared → Prop), S xs.length s.heap →
    (∀ h' tk, (∀ b o, b ∉ wr → s.heap.get? b = some o → h'.get? b = some o) → Q none { s with heap := h', toks := tk }) → wpAny (model prog w) A (pyNext (.ref I)) Q E s
  self : ∀ i (s : Shared) (Q : Value → Shared → Prop) (E : Value → Shared → Prop), S i s.heap → Q (.ref I) s → wpAny (model prog w) A (pyIter (.ref I)) Q E s

/-- a thing to go through -/
noncomputable def It (prog : Program) (w : World) (hb : Heap) (n : Nat) (sc : Scope) (tgt : Expr) (e : Expr) (m : Rho → Option (List PyData × Fl)) : Prop :=
  (∀ (env : Env) x, foldedSetIterable e env x = pure x) ∧
  ∀ ⦃A : Around⦄ ⦃env : Env⦄ ⦃s₀ : Shared⦄ ⦃X C : List Addr⦄ ⦃ρ : Rho⦄ ⦃O : List (String × List Addr)⦄ ⦃s : Shared⦄ ⦃v : List PyData × Fl⦄ ⦃Q : Value → Shared → Prop⦄ ⦃E : Value → Shared → Prop⦄,
    env.scope = sc → RoomF A n → InF prog w hb s₀ X env C ρ O s → m ρ = some v →
    (∀ I F wr S s', Keeps s s' → Stream prog w A tgt I F wr v.1 S → S 0 s'.heap → FlOk s₀.heap (WW env C O) v.2 F → wfs v.1 = true → v.1.length ≤ sizeLine → (∀ b ∈ wr, s.heap.get? b = none) → Q (.ref I) s') →
    wpAny (model prog w) A (eval e env) (fun x s₁ => wpAny (model prog w) A (pyIter x) Q E s₁) E s
/-- a target of assignment -/
noncomputable def Tg (prog : Program) (w : World) (hb : Heap) (sc : Scope) (tgt : Expr) (m : V → Rho → Option Rho) : Prop :=
  ∀ ⦃A : Around⦄ ⦃env : Env⦄ ⦃s₀ : Shared⦄ ⦃X C : List Addr⦄ ⦃ρ ρ' : Rho⦄ ⦃O : List (String × List Addr)⦄ ⦃s : Shared⦄ ⦃u : Value⦄ ⦃v : V⦄ ⦃Q : Unit → Shared → Prop⦄ ⦃E : Value → Shared → Prop⦄,
    env.scope = sc → A.handled = none → InS prog w hb s₀ X env C ρ O s → Rep prog w s₀.heap (WW env C O) s.heap u v → m v ρ = some ρ' →
    (∀ s', InS prog w hb s₀ X env C ρ' O s' → Step s.heap s'.heap (WW env C O) (WW env C O) → Q () s') → wpAny (model prog w) A (assign tgt env u) Q E s
noncomputable def forD (bind : V → Rho → Option Rho) (body : Rho → Option Out) (f : Fl) : List PyData → Rho → Option Out
  | [], ρ => some (.next ρ)
  | x :: xs, ρ => (bind (V.fix x f) ρ).bind fun ρ₁ => (body ρ₁).bind fun o => match o with
    | .next ρ₂ => forD bind body f xs ρ₂
    | .cont ρ₂ => forD bind body f xs ρ₂
    | .brk ρ₂ => some (.next ρ₂)
    | .ret y => some (.ret y)
theorem Step.off {h h' : Heap} {W W' : List Addr} (k : Step h h' W W') (ht : ∀ a ∈ W, ∃ o, h.get? a = some o ∧ ¬ Tup o) : Off W h h' := by
  intro b o e hc
  refine k.keep b o e fun hw => ?_
  rcases hc with hc | hc
  · exact hc hw
  · obtain ⟨o', e', q⟩ := ht b hw
    rw [e] at e'; cases e'; exact q hc
set_option maxHeartbeats 1000000 in
theorem S1.for {tgt e : Expr} {body : List Stmt} {pos : Pos} {m : Rho → Option (List PyData × Fl)} {bind : V → Rho → Option Rho} {mb : Rho → Option Out} (hi : It prog w hb n sc tgt e m) (ht : Tg prog w hb sc tgt bind) (hbd : St prog w hb n sc body mb) :
    S1 prog w hb n sc (.For tgt e body [] pos) (fun ρ => (m ρ).bind fun v => if v.2 = .t then none else forD bind mb v.2 v.1 ρ) := by
  intro A env s₀ X C ρ O s r Q E hs hA I hm hQ
  obtain ⟨⟨xs, f⟩, hv, hm⟩ := Option.bind_eq_some_iff.mp hm
  dsimp only at hm
  split at hm
  · cases hm
  rename_i hf
  refine wpAny_For (hi.2 hs hA I.toInF hv fun J F wr S s₁ k₁ T hS hF hwf hlen hwr => ?_) (hi.1 env)
  have I₁ := I.grow k₁
  have hFW : ∀ a ∈ F, a ∉ WW env C O := by
    cases f with
    | d => exact fun a ha => (hF a ha).2
    | s => exact hF
    | t => exact absurd rfl hf
  have wrOk : ∀ b ∈ wr, hb.get? b = none ∧ s₀.heap.get? b = none ∧ b ∉ WW env C O := by
    intro b hb'
    have h0 := hwr b hb'
    obtain ⟨f1, f2⟩ := I.toInF.fresh h0
    refine ⟨?_, f1, f2⟩
    cases e : hb.get? b with
    | none => rfl
    | some o => rw [I.base.grow _ _ e] at h0; cases h0
  have step : ∀ {O₂ : List (String × List Addr)} {h₂ : Heap}, (∀ b o, s₁.heap.get? b = some o → b ∉ WW env C O → b ∉ wr → h₂.get? b = some o) → (∀ a ∈ WW env C O₂, a ∈ WW env C O ∨ s₁.heap.get? a = none) → Step s.heap h₂ (WW env C O) (WW env C O₂) := by
    intro O₂ h₂ K N
    refine ⟨fun b o e hw => K b o (keeps_grow k₁ _ _ e) hw fun hq => ?_, fun a ha => (N a ha).imp id fun q => ?_⟩
    · rw [hwr b hq] at e; cases e
    · cases e : s.heap.get? a with
      | none => rfl
      | some o => rw [keeps_grow k₁ _ _ e] at q; cases q
  refine codeAny_forLoop_any (fun k s₂ => ∃ i ρ₂ O₂, k = xs.length + 1 - i ∧ i ≤ xs.length ∧ InS prog w hb s₀ X env C ρ₂ O₂ s₂ ∧ (∀ b o, s₁.heap.get? b = some o → b ∉ WW env C O → b ∉ wr → s₂.heap.get? b = some o) ∧
      (∀ a ∈ WW env C O₂, a ∈ WW env C O ∨ s₁.heap.get? a = none) ∧ S i s₂.heap ∧ forD bind mb f (xs.drop i) ρ₂ = some r) ?_ (xs.length + 1)
    ⟨0, ρ, O, by omega, by omega, I₁, fun _ _ e _ _ => e, fun _ h => .inl h, hS, by simpa using hm⟩
  rintro k s₂ ⟨i, ρ₂, O₂, hL⟩
  have hk := hL.1
  subst hk
  have hil := hL.2.1
  have I₂ := hL.2.2.1
  have K₂ := hL.2.2.2.1
  have N₂ := hL.2.2.2.2.1
  have hS₂ := hL.2.2.2.2.2.1
  have hm₂ := hL.2.2.2.2.2.2
  clear hL
  have wr₂ : ∀ b ∈ wr, b ∉ WW env C O₂ := by
    intro b hb' hq
    rcases N₂ b hq with q | q
    · exact (wrOk b hb').2.2 q
    · obtain ⟨o, fs, e, _⟩ := T.inert 0 _ hS b hb'; rw [e] at q; cases q
  have F₂ : ∀ a ∈ F, a ∉ WW env C O₂ := by
    intro a ha hq
    rcases N₂ a hq with q | q
    · exact hFW a ha q
    · obtain ⟨o, e⟩ := T.alive 0 _ hS a ha; rw [e] at q; cases q
  have out₂ : ∀ b o, s₁.heap.get? b = some o → b ∉ WW env C O → b ∉ WW env C O₂ := fun b o e hw hq => (N₂ b hq).elim hw fun q => by rw [e] at q; cases q
  by_cases hlt : i < xs.length
  · have hx : xs[i]? = some xs[i] := List.getElem?_eq_getElem hlt
    rw [List.drop_eq_getElem_cons hlt] at hm₂
    simp only [forD] at hm₂
    obtain ⟨ρ₃, hb₃, hm₃⟩ := Option.bind_eq_some_iff.mp hm₂
    obtain ⟨o, ho, hm₄⟩ := Option.bind_eq_some_iff.mp hm₃
    refine wpAny_mono (T.turn i _ s₂ (fun v s₃ => wpAny (model prog w) A (PySem.assign tgt env v) (fun _ s₄ => wpAny (model prog w) A (execs body env) (fun fl s₅ => match fl with
            | .next | .cont => ∃ m, m < xs.length + 1 - i ∧ ∃ i ρ₂ O₂, m = xs.length + 1 - i ∧ i ≤ xs.length ∧ InS prog w hb s₀ X env C ρ₂ O₂ s₅ ∧ (∀ b o, s₁.heap.get? b = some o → b ∉ WW env C O → b ∉ wr → s₅.heap.get? b = some o) ∧
                (∀ a ∈ WW env C O₂, a ∈ WW env C O ∨ s₁.heap.get? a = none) ∧ S i s₅.heap ∧ forD bind mb f (xs.drop i) ρ₂ = some r
            | .brk => Q .next s₅
            | .ret v => Q (.ret v) s₅) (notedBy (model prog w) A env fun e s' => cameBackBy (model prog w) A env E e s') s₄) (notedBy (model prog w) A env fun e s' => cameBackBy (model prog w) A env E e s') s₃) (notedBy (model prog w) A env fun e s' => cameBackBy (model prog w) A env E e s') hx hS₂ fun v as h' tk rd has hS₃ kp => ?_) (fun rr s₃ h₃ => ?_) fun _ _ e => e
    · have I₃ := I₂.iter (tk := tk) (T.inert i _ hS₂) (fun b hb' => ⟨(wrOk b hb').1, (wrOk b hb').2.1, wr₂ b hb'⟩) kp
      have rep : Rep prog w s₀.heap (WW env C O₂) h' v (V.fix xs[i] f) := by
        refine Rep.fixed rd ((wfs_iff _).mp hwf _ (List.getElem_mem _)) ?_
        cases f with
        | d => exact fun a ha => ⟨(hF a (has a ha)).1, F₂ a (has a ha)⟩
        | s => exact fun a ha => F₂ a (has a ha)
        | t => trivial
      refine ht hs hA.handled I₃ rep hb₃ fun s₄ I₄ T₄ => ?_
      have K₄ : S (i + 1) s₄.heap := T.frame _ _ _ (WW env C O₂) hS₃ (T₄.off I₃.walive) F₂ wr₂
      have keep₄ : ∀ b o, s₁.heap.get? b = some o → b ∉ WW env C O → b ∉ wr → s₄.heap.get? b = some o := fun b o e hw hq => T₄.keep b o (kp b o hq (K₂ b o e hw hq)) (out₂ b o e hw)
      have fin : ∀ {O₅ : List (String × List Addr)} {s₅ : Shared}, Step s₄.heap s₅.heap (WW env C O₂) (WW env C O₅) → (∀ b o, s₁.heap.get? b = some o → b ∉ WW env C O → b ∉ wr → s₅.heap.get? b = some o) ∧ (∀ a ∈ WW env C O₅, a ∈ WW env C O ∨ s₁.heap.get? a = none) := by
        intro O₅ s₅ T₅
        refine ⟨fun b o e hw hq => T₅.keep b o (keep₄ b o e hw hq) (out₂ b o e hw), fun a ha => ?_⟩
        rcases T₅.new a ha with q | q
        · exact N₂ a q
        · by_cases hw : a ∈ WW env C O
          · exact .inl hw
          · refine .inr ?_
            cases e : s₁.heap.get? a with
            | none => rfl
            | some o =>
              by_cases hq : a ∈ wr
              · obtain ⟨o', fs, e', _⟩ := T.inert _ _ K₄ a hq; rw [e'] at q; cases q
              · rw [keep₄ a o e hw hq] at q; cases q
      refine hbd hs hA I₄ ho ?_
      cases o with
      | next ρ₅ =>
        intro O₅ s₅ I₅ T₅
        obtain ⟨f1, f2⟩ := fin T₅
        exact ⟨xs.length + 1 - (i + 1), by omega, i + 1, ρ₅, O₅, rfl, hlt, I₅, f1, f2, T.frame _ _ _ (WW env C O₂) K₄ (T₅.off I₄.walive) F₂ wr₂, hm₄⟩
      | cont ρ₅ =>
        intro O₅ s₅ I₅ T₅
        obtain ⟨f1, f2⟩ := fin T₅
        exact ⟨xs.length + 1 - (i + 1), by omega, i + 1, ρ₅, O₅, rfl, hlt, I₅, f1, f2, T.frame _ _ _ (WW env C O₂) K₄ (T₅.off I₄.walive) F₂ wr₂, hm₄⟩
      | brk ρ₅ =>
        cases hm₄
        intro O₅ s₅ I₅ T₅
        obtain ⟨f1, f2⟩ := fin T₅
        exact hQ O₅ s₅ I₅ (step f1 f2)
      | ret y =>
        cases hm₄
        exact hQ
    · cases rr with
      | none => exact h₃.elim
      | some v => exact h₃
  · have hi' : i = xs.length := by omega
    subst hi'
    simp only [List.drop_length, forD] at hm₂
    cases hm₂
    refine T.done s₂ _ _ hS₂ fun h' tk kp => wpAny_execs_nil ?_
    have I₃ := I₂.iter (tk := tk) (T.inert _ _ hS₂) (fun b hb' => ⟨(wrOk b hb').1, (wrOk b hb').2.1, wr₂ b hb'⟩) kp
    exact hQ O₂ _ I₃ (step (fun b o e hw hq => kp b o hq (K₂ b o e hw hq)) N₂)
end Mine

/-! text PF9 -/
set_option autoImplicit false
namespace Mine
open PySem PySem.Calls
variable {prog : Program} {w : World} {hb : Heap} {n : Nat} {sc : Scope}

/-! ## streams -/
theorem letGo_plain {A : Around} {E : Value → Shared → Prop} {s : Shared} {tgt : Expr} {I : Addr} {v : Value} {o : Obj} {T : String} {Q : Unit → Shared → Prop} (ho : s.heap.get? I = some o) (hc : o.cls = .type T)
    (hT : ["enumerate", "zip", "dict_itemiterator", "dict_reverseitemiterator", "odict_iterator", "itertools.zip_longest", "itertools.pairwise"].contains T = false) (h : Q () s) :
    wpAny (model prog w) A (letOwnedTupleGo tgt (.ref I) v) Q E s := by
  have fin : wpAny (model prog w) A (match o.cls, o.data with
      | .type n, .fields vs => (do
        let (.ref a) := v | return ()
        if ["enumerate", "zip", "dict_itemiterator", "dict_reverseitemiterator", "odict_iterator", "itertools.zip_longest", "itertools.pairwise"].contains n && vs[0]? == some (rawInt a) then
          rule "for.unpacks-the-owned-tuple"
          updateField I 0 .none : Sem Unit)
      | _, _ => pure ()) Q E s := by
    obtain ⟨oc, od, dt, sl⟩ := o
    dsimp only at hc ⊢
    subst hc
    cases dt with
    | fields vs =>
      cases v with
      | ref a =>
        show wpAny (model prog w) A (if (["enumerate", "zip", "dict_itemiterator", "dict_reverseitemiterator", "odict_iterator", "itertools.zip_longest", "itertools.pairwise"].contains T && vs[0]? == some (rawInt a)) = true then _ else _) Q E s
        rw [hT, Bool.false_and, if_neg Bool.false_ne_true]
        exact wpAny_pure h
      | _ => exact wpAny_pure h
    | _ => exact wpAny_pure h
  unfold letOwnedTupleGo
  split
  · cases v <;> first | exact wpAny_pure h | (refine wpAny_bind (wpAny_load ho ?_); exact fin)
  · cases v <;> first | exact wpAny_pure h | (refine wpAny_bind (wpAny_load ho ?_); exact fin)
  · exact wpAny_pure h
theorem Stream.list {A : Around} (hh : A.handled = none) (tgt : Expr) (I a : Addr) (xs : List PyData) (F : List Addr) :
    Stream prog w A tgt I (a :: F) [I] xs (fun i h => h.IsListIter I a i ∧ RD prog w h (.ref a) (.list xs) (a :: F)) where
  frame := fun i h h' W st off hF hw => ⟨by
      obtain ⟨o, ho, r⟩ := st.1
      exact ⟨o, off _ _ ho (.inl (hw I (.head _))), r⟩, st.2.off off hF⟩
  inert := fun i h st b hb' => by
    rw [List.mem_singleton.mp hb']
    obtain ⟨o, ho, _, hd⟩ := st.1
    exact ⟨o, _, ho, hd⟩
  alive := fun i h st => st.2.alive
  turn := fun i x s Q E hx st hQ => by
    obtain ⟨hit, rl⟩ := st
    cases rl with
    | list a1 a2 =>
      obtain ⟨v, cs, e1, e2, e3⟩ := a2.get hx
      refine wpAny_pyNext_list_item hit ⟨_, a1, rfl, _, rfl⟩ (by simpa using e1) fun h' hit' hs' => ?_
      have K : Inert s.heap h' := by
        intro b o e hd
        refine (hs'.2 b fun q => ?_).trans e
        obtain ⟨o', ho', _, hd'⟩ := hit
        rw [q, ho'] at e; cases e
        exact hd _ hd'
      obtain ⟨o', ho', hc', hd'⟩ := hit'
      refine letGo_plain ho' hc' (by decide) (hQ v cs h' s.toks (e2.inert K) (fun b hb' => .tail _ (e3 b hb')) ⟨⟨o', ho', hc', hd'⟩, (RD.list a1 a2).inert K⟩ fun b o hb' e => (hs'.2 b (by simpa using hb')).trans e)
  done := fun s Q E st hQ => by
    obtain ⟨hit, rl⟩ := st
    cases rl with
    | list a1 a2 =>
      refine wpAny_pyNext_list_end hh hit ⟨_, a1, rfl, _, rfl⟩ (by simp [a2.length]) fun h' he' => hQ h' s.toks fun b o hb' e => he' b o (by simpa using hb') e
  self := fun i s Q E st hQ => wpAny_pyIter_listiter st.1 hQ
theorem Stream.tuple {A : Around} (hh : A.handled = none) (tgt : Expr) (I a : Addr) (xs : List PyData) (F : List Addr) :
    Stream prog w A tgt I F [I] xs (fun i h => h.IsTupleIter I a i ∧ RD prog w h (.ref a) (.tuple xs) F) where
  frame := fun i h h' W st off hF hw => ⟨by
      obtain ⟨o, ho, r⟩ := st.1
      exact ⟨o, off _ _ ho (.inl (hw I (.head _))), r⟩, st.2.off off hF⟩
  inert := fun i h st b hb' => by
    rw [List.mem_singleton.mp hb']
    obtain ⟨o, ho, _, hd⟩ := st.1
    exact ⟨o, _, ho, hd⟩
  alive := fun i h st => st.2.alive
  turn := fun i x s Q E hx st hQ => by
    obtain ⟨hit, rl⟩ := st
    cases rl with
    | tuple a1 a2 =>
      obtain ⟨v, cs, e1, e2, e3⟩ := a2.get hx
      refine wpAny_pyNext_tuple_item hit ⟨_, a1, rfl, _, rfl⟩ (by simpa using e1) fun h' hit' hs' => ?_
      have K : Inert s.heap h' := by
        intro b o e hd
        refine (hs'.2 b fun q => ?_).trans e
        obtain ⟨o', ho', _, hd'⟩ := hit
        rw [q, ho'] at e; cases e
        exact hd _ hd'
      obtain ⟨o', ho', hc', hd'⟩ := hit'
      refine letGo_plain ho' hc' (by decide) (hQ v cs h' s.toks (e2.inert K) e3 ⟨⟨o', ho', hc', hd'⟩, (RD.tuple a1 a2).inert K⟩ fun b o hb' e => (hs'.2 b (by simpa using hb')).trans e)
  done := fun s Q E st hQ => by
    obtain ⟨hit, rl⟩ := st
    cases rl with
    | tuple a1 a2 =>
      refine wpAny_pyNext_tuple_end hh hit ⟨_, a1, rfl, _, rfl⟩ (by simp [a2.length]) fun h' he' => hQ h' s.toks fun b o hb' e => he' b o (by simpa using hb') e
  self := fun i s Q E st hQ => wpAny_pyIter_tupleiter st.1 hQ
/-- a stream out of the library's walks, items without lists -/
theorem Stream.ofWalks {A : Around} {tgt : Expr} {I : Addr} {k : Nat} {P : Nat → Value → Prop} {S : Nat → Heap → Prop} {xs : List PyData} (W : Walks prog w A I [I] [I] k P S) (hlen : xs.length = k)
    (hP : ∀ i v x h, P i v → xs[i]? = some x → RD prog w h v x []) (hin : ∀ i h, S i h → ∃ o fs T, h.get? I = some o ∧ o.data = .fields fs ∧ o.cls = .type T ∧ ["enumerate", "zip", "dict_itemiterator", "dict_reverseitemiterator", "odict_iterator", "itertools.zip_longest", "itertools.pairwise"].contains T = false) :
    Stream prog w A tgt I [] [I] xs S where
  frame := fun i h h' V st off _ hw => W.frame i h h' st fun b hb' o e => off b o e (.inl (hw b hb'))
  inert := fun i h st b hb' => by
    rw [List.mem_singleton.mp hb']
    obtain ⟨o, fs, T, e, d, _⟩ := hin i h st
    exact ⟨o, fs, e, d⟩
  alive := fun _ _ _ _ h => nomatch h
  turn := fun i x s Q E hx st hQ => by
    have hi : i < k := by rw [← hlen]; exact (List.getElem?_eq_some_iff.mp hx).1
    refine W.item i s _ _ hi st fun v h' tk hv st' kp => ?_
    obtain ⟨o, fs, T, e, d, c, hT⟩ := hin _ _ st'
    exact letGo_plain e c hT (hQ v [] h' tk (hP i v x h' hv hx) (fun _ h => nomatch h) st' kp)
  done := fun s Q E st hQ => W.done s Q E (by rw [← hlen]; exact st) hQ
  self := fun i s Q E st hQ => W.self i s Q E st hQ
noncomputable def signs (x : Str) : List PyData := x.cps.toList.map fun c => .str ⟨#[c]⟩
noncomputable def itemsOf (v : V) : Option (List PyData × Fl) := match v.x with
  | .list xs => some (xs, v.fl)
  | .tuple xs => some (xs, v.fl)
  | .str x => some (signs x, .d)
  | _ => none
theorem wfs_signs {x : Str} (h : wf (.str x) = true) : wfs (signs x) = true := by
  rw [wfs_iff]
  intro y hy
  obtain ⟨c, hc, rfl⟩ := List.mem_map.mp hy
  rw [wf_str] at h ⊢
  refine ⟨?_, by show 1 ≤ sizeLine; decide⟩
  have := h.1
  unfold PyData.strOk at this ⊢
  have := Array.all_eq_true'.mp this c (by simpa using hc)
  simpa using this
theorem It.data {tgt e : Expr} {m : Rho → Option V} (h : Ev prog w hb n sc e m) (hf : ∀ (env : Env) x, foldedSetIterable e env x = pure x := by intro _ _; rfl) : It prog w hb n sc tgt e (fun ρ => (m ρ).bind itemsOf) := by
  refine ⟨hf, ?_⟩
  intro A env s₀ X C ρ O s v Q E hs hA I hm hQ
  obtain ⟨⟨ax, af⟩, ha, hm⟩ := Option.bind_eq_some_iff.mp hm
  refine h hs hA I ha fun u s₁ k₁ r₁ => ?_
  obtain ⟨as, ra, ca, oa⟩ := r₁
  have fresh : s.heap.get? s₁.heap.objs.size = none := by
    cases e : s.heap.get? s₁.heap.objs.size with
    | none => rfl
    | some o => exact absurd (Heap.lt_size (keeps_grow k₁ _ _ e)) (Nat.lt_irrefl _)
  unfold itemsOf at hm
  dsimp only at *
  split at hm
  · cases hm
    cases ra with
    | list a1 a2 =>
      rename_i ad vs k bs
      rw [wf_list] at ca
      refine wpAny_pyIter_list ⟨_, a1, rfl, _, rfl⟩ ?_
      refine hQ _ _ _ _ _ (keeps_trans k₁ (keeps_push _ _)) (Stream.list hA.handled tgt _ ad _ bs) ⟨⟨_, Heap.get?_push_size _ rfl, rfl, rfl⟩, (RD.list a1 a2).grow (Grow.push _ _)⟩ oa ca.2 ca.1 fun b hb' => ?_
      rw [List.mem_singleton.mp hb']; exact fresh
  · cases hm
    cases ra with
    | tuple a1 a2 =>
      rename_i ad vs k
      rw [wf_tuple] at ca
      refine wpAny_pyIter_tuple ⟨_, a1, rfl, _, rfl⟩ ?_
      refine hQ _ _ _ _ _ (keeps_trans k₁ (keeps_push _ _)) (Stream.tuple hA.handled tgt _ ad _ as) ⟨⟨_, Heap.get?_push_size _ rfl, rfl, rfl⟩, (RD.tuple a1 a2).grow (Grow.push _ _)⟩ oa ca.2 ca.1 fun b hb' => ?_
      rw [List.mem_singleton.mp hb']; exact fresh
  · cases hm
    cases ra
    rename_i x t
    have hlen : (signs x).length = x.cps.size := by simp [signs]
    have hz : (signs x).length ≤ sizeLine := by rw [hlen]; exact (wf_str.mp ca).2
    have hP : ∀ i v y h, SignAt x i v → (signs x)[i]? = some y → RD prog w h v y [] := by
      intro i v y h hv hy
      obtain ⟨c, u, hc, rfl⟩ := hv
      have e : (signs x)[i]? = some (.str ⟨#[c]⟩) := by simp [signs, hc]
      rw [e] at hy; cases hy
      exact .str _ _
    have hw : ∀ b ∈ [s₁.heap.objs.size], s.heap.get? b = none := fun b hb' => by rw [List.mem_singleton.mp hb']; exact fresh
    cases hasc : x.cps.all (· < 128)
    · refine wpAny_pyIter_wide hasc (hQ _ [] _ _ _ (keeps_trans k₁ (keeps_push _ _)) (Stream.ofWalks (Walks.strWide hA.handled _ x t) hlen hP fun i h st => ?_) ⟨_, Heap.get?_push_size _ rfl, rfl, rfl⟩ FlOk.nil (wfs_signs ca) hz hw)
      obtain ⟨o, ho, hc, hd⟩ := st
      exact ⟨o, _, _, ho, hd, hc, by decide⟩
    · refine wpAny_pyIter_ascii hasc (hQ _ [] _ _ _ (keeps_trans k₁ (keeps_push _ _)) (Stream.ofWalks (Walks.strAscii hA.handled _ x t) hlen hP fun i h st => ?_) ⟨_, Heap.get?_push_size _ rfl, rfl, rfl⟩ FlOk.nil (wfs_signs ca) hz hw)
      obtain ⟨o, ho, hc, hd⟩ := st
      exact ⟨o, _, _, ho, hd, hc, by decide⟩
  · cases hm
/-! ## targets -/
noncomputable def putR (x : String) (v : V) (ρ : Rho) : Option Rho := match v.fl with
  | .t => none
  | _ => some (ρ.set x (.val v))
theorem putR_some {ρ ρ' : Rho} {x : String} {v : V} (h : putR x v ρ = some ρ') : (v.fl = .d ∨ v.fl = .s) ∧ ρ' = ρ.set x (.val v) := by
  unfold putR at h
  split at h
  · cases h
  · rename_i hf
    cases h
    refine ⟨?_, rfl⟩
    cases e : v.fl with
    | d => exact .inl rfl
    | s => exact .inr rfl
    | t => exact absurd e hf
theorem Tg.name {x : String} {pos : Pos} (hv : isVar sc x = true) : Tg prog w hb sc (.Name (Str.ofString x) pos) (putR x) := by
  intro A env s₀ X C ρ ρ' O s u v Q E hs hA I r hm hQ
  obtain ⟨hf, rfl⟩ := putR_some hm
  exact wpAny_assign_Name (I.store (v := .val v) (by rw [hs]; exact hv) ⟨hf, r⟩ fun s' I' T => hQ s' I' T)
/-- names one behind the other -/
noncomputable def putRs : List String → List V → Rho → Option Rho
  | [], [], ρ => some ρ
  | x :: xs, v :: vs, ρ => (putR x v ρ).bind (putRs xs vs)
  | _, _, _ => none
noncomputable def tupOf (v : V) : Option (List V) := match v.x with
  | .tuple xs => some (xs.map fun x => V.fix x v.fl)
  | _ => none
theorem putRs_len : ∀ {xs : List String} {vs : List V} {ρ ρ' : Rho}, putRs xs vs ρ = some ρ' → xs.length = vs.length ∧ ∀ v ∈ vs, v.fl = .d ∨ v.fl = .s
  | [], [], _, _, _ => ⟨rfl, fun _ h => nomatch h⟩
  | [], _ :: _, _, _, h => by simp [putRs] at h
  | _ :: _, [], _, _, h => by simp [putRs] at h
  | x :: xs, v :: vs, ρ, ρ', h => by
    simp only [putRs] at h
    obtain ⟨ρ₁, h1, h2⟩ := Option.bind_eq_some_iff.mp h
    obtain ⟨a, b⟩ := putRs_len h2
    refine ⟨by simp [a], fun u hu => ?_⟩
    rcases List.mem_cons.mp hu with rfl | hu
    · exact (putR_some h1).1
    · exact b u hu
theorem Reps.off {s₀ h h' : Heap} {W : List Addr} (k : Off W h h') {us : List Value} {vs : List V} (r : Reps prog w s₀ W h us vs) (hf : ∀ v ∈ vs, v.fl = .d ∨ v.fl = .s) : Reps prog w s₀ W h' us vs := by
  induction r with
  | nil => exact .nil
  | cons a _ ih => exact .cons (a.off k (hf _ (.head _))) (ih fun v hv => hf v (.tail _ hv))
theorem assign_names {A : Around} {env : Env} {s₀ : Shared} {X C : List Addr} {O : List (String × List Addr)} {Q : Unit → Shared → Prop} {E : Value → Shared → Prop} (hs : env.scope = sc) :
    ∀ {xs : List String} {elts : List Expr} {us : List Value} {vs : List V} {ρ ρ' : Rho} {s : Shared}, (∀ x ∈ xs, isVar sc x = true) → elts.length = xs.length → InS prog w hb s₀ X env C ρ O s → Reps prog w s₀.heap (WW env C O) s.heap us vs → putRs xs vs ρ = some ρ' →
    (∀ s', InS prog w hb s₀ X env C ρ' O s' → Step s.heap s'.heap (WW env C O) (WW env C O) → Q () s') →
    wpAny (model prog w) A (assignInOrder ((xs.zipWith (fun x e => (false, PySem.assign (.Name (Str.ofString x) e.pos) env)) elts).map (·.2)) us) Q E s
  | [], [], us, vs, ρ, ρ', s, _, _, I, r, hm, hQ => by
    cases vs with
    | nil => cases r; cases hm; exact wpAny_pure (hQ s I (Step.refl _ _))
    | cons _ _ => simp [putRs] at hm
  | [], _ :: _, _, _, _, _, _, _, h, _, _, _, _ => by simp at h
  | _ :: _, [], _, _, _, _, _, _, h, _, _, _, _ => by simp at h
  | x :: xs, e :: elts, us, vs, ρ, ρ', s, hv, hl, I, r, hm, hQ => by
    cases r with
    | nil => simp [putRs] at hm
    | cons r1 r2 =>
      rename_i u v us vs
      have hfl := (putRs_len hm).2
      simp only [putRs] at hm
      obtain ⟨ρ₁, h1, h2⟩ := Option.bind_eq_some_iff.mp hm
      obtain ⟨hf, rfl⟩ := putR_some h1
      refine wpAny_bind (wpAny_holding (wpAny_assign_Name (I.store (v := .val v) (by rw [hs]; exact hv x (.head _)) ⟨hf, r1⟩ fun s₁ I₁ T₁ => ?_)))
      exact assign_names hs (fun y hy => hv y (.tail _ hy)) (by simpa using hl) I₁ (r2.off (T₁.off I.walive) fun v hv => hfl v (.tail _ hv)) h2 fun s' I' T' => hQ s' I' (T₁.trans T')
theorem Tg.tuple {xs : List String} {elts : List Expr} {k : Nat} {pos : Pos} (hv : ∀ x ∈ xs, isVar sc x = true) (hlen : elts.length = xs.length)
    (he : ∀ env : Env, assignEach elts env = xs.zipWith (fun x e => (false, PySem.assign (.Name (Str.ofString x) e.pos) env)) elts) :
    Tg prog w hb sc (.Tuple elts k pos) (fun v ρ => (tupOf v).bind fun vs => putRs xs vs ρ) := by
  intro A env s₀ X C ρ ρ' O s u v Q E hs hA I r hm hQ
  obtain ⟨vs, hvs, hm⟩ := Option.bind_eq_some_iff.mp hm
  obtain ⟨vx, vf⟩ := v
  obtain ⟨as, ra, ca, oa⟩ := r
  unfold tupOf at hvs
  dsimp only at *
  split at hvs
  · rename_i ys
    cases hvs
    cases ra with
    | tuple a1 a2 =>
      rename_i us kk
      rw [wf_tuple] at ca
      have hl := a2.length
      have hrs : ∀ {us : List Value} {ys : List PyData} {as : List Addr}, RDs prog w s.heap us ys as → wfs ys = true → FlOk s₀.heap (WW env C O) vf as → Reps prog w s₀.heap (WW env C O) s.heap us (ys.map fun x => V.fix x vf) := by
        intro us
        induction us with
        | nil => intro ys as r _ _; cases r; exact .nil
        | cons u us ih =>
          intro ys as r c o
          cases r with
          | cons r1 r2 =>
            simp only [wfs, Bool.and_eq_true] at c
            exact .cons (Rep.fixed r1 c.1 (o.mono fun _ h => List.mem_append_left _ h)) (ih r2 c.2 (o.mono fun _ h => List.mem_append_right _ h))
      have reps := hrs a2 ca.2 oa
      clear hrs
      have hxl : xs.length = us.length := by
        rw [(putRs_len hm).1, reps.length]
      refine wpAny_assign_Tuple hA ⟨_, a1, rfl, _, rfl⟩ (by rw [he]; simp [hlen, hxl]) ?_ fun h' ext => ?_
      · rw [he, List.findIdx?_eq_none_iff]
        intro p hp
        obtain ⟨i, hi, rfl⟩ := List.mem_iff_getElem.mp hp
        simp
      have k' : Keeps s { s with heap := h' } := ⟨h', s.toks, rfl, fun b o e => ext b o (Nat.ne_of_lt (Heap.lt_size e)) e⟩
      have I' := I.grow k'
      have reps' := reps.grow (keeps_grow k')
      rw [he]
      have T₀ : Step s.heap h' (WW env C O) (WW env C O) := Step.of_grow (keeps_grow k')
      exact assign_names hs hv hlen I' reps' hm fun s' I'' T => hQ s' I'' (T₀.trans T)
  · cases hvs
end Mine

/-! text PF10 -/
set_option autoImplicit false
namespace Mine
open PySem PySem.Calls
variable {prog : Program} {w : World} {hb : Heap} {n : Nat} {sc : Scope}

/-! ## global names, calls -/
noncomputable def GName (hb : Heap) (x : String) (v : Value) : Prop :=
  (∃ mg, hb.Ns mainGlobals mg ∧ mg (Str.ofString x) = some v) ∨ (∃ mg mb, hb.Ns mainGlobals mg ∧ mg (Str.ofString x) = none ∧ hb.Ns builtinsNs mb ∧ mb (Str.ofString x) = some v)
noncomputable def isGlob (sc : Scope) (x : String) : Bool := decide (sc.names.lookup (Str.ofString x) = some .globalImplicit) && !(Str.ofString x == ("__debug__" : Str))
theorem eval_glob {A : Around} {env : Env} {s₀ : Shared} {X C : List Addr} {ρ : Rho} {O : List (String × List Addr)} {s : Shared} {E : Value → Shared → Prop} {Q : Value → Shared → Prop} {x : String} {pos : Pos} {v : Value}
    (I : InF prog w hb s₀ X env C ρ O s) (hx : isGlob env.scope x = true) (hg : GName hb x v) (h : Q v s) : wpAny (model prog w) A (eval (.Name (Str.ofString x) pos) env) Q E s := by
  simp only [isGlob, Bool.and_eq_true, decide_eq_true_eq, Bool.not_eq_true'] at hx
  rcases hg with ⟨mg, hm, hv⟩ | ⟨mg, mb, hm, h0, hm', hv⟩
  · exact Name_function_global I.kind hx.1 (loadGlobal_global (by rw [I.glob]; exact hm.keeps I.base.grow) hv h) hx.2
  · exact Name_function_global I.kind hx.1 (loadGlobal_builtin (by rw [I.glob]; exact hm.keeps I.base.grow) h0 (by rw [I.bult]; exact hm'.keeps I.base.grow) hv h) hx.2
/-- a global that is read as data -/
theorem Ev.glob {x : String} {pos : Pos} {v : Value} {d : PyData} {as : List Addr} (hx : isGlob sc x = true) (hg : GName hb x v) (hd : RD prog w hb v d as) (hw : wf d = true) : Ev prog w hb n sc (.Name (Str.ofString x) pos) (fun _ => some (V.fix d .s)) := by
  intro A env s₀ X C ρ O s v' Q E hs hA I hm hQ
  cases hm
  refine eval_glob I (by rw [hs]; exact hx) hg (hQ _ _ (keeps_refl s) (Rep.fixed (hd.grow I.base.grow) hw fun a ha hq => ?_))
  obtain ⟨o, e⟩ := hd.alive a ha
  rw [(I.wfresh a hq).1] at e; cases e

/-- what may be called: a built-in, a type, a def of the text -/
noncomputable def Calls (hb : Heap) (f : Value) : Prop := (∃ id, f = .builtin id) ∨ (∃ T, f = .type T) ∨ ∃ a o fd, f = .ref a ∧ hb.get? a = some o ∧ o.data = .func fd
theorem callWith_ok {A : Around} {env : Env} {s : Shared} {E : Value → Shared → Prop} {Q : Value → Shared → Prop} {pos : Pos} {f : Value} {es : List Expr} (hf : Calls hb f)
    (hstar : (backTo pos (starEach es env)).any (·.1) = false)
    (h : wpAny (model prog w) A (spliced (backTo pos (starEach es env))) (fun us s₁ => Grow hb s₁.heap ∧ wpAny (model prog w) A (call f us) Q E s₁) E s) :
    wpAny (model prog w) A (callWith pos f [] (backTo pos (starEach es env)) []) Q E s := by
  have args : wpAny (model prog w) A (evalArgs f true (backTo pos (starEach es env)) []) (fun a s₁ => Grow hb s₁.heap ∧ wpAny (model prog w) A (call f ([] ++ a.pos) a.kw) Q E s₁) E s := by
    generalize backTo pos (starEach es env) = l at hstar h
    cases l with
    | nil =>
      exact fun Γ p hΓ => evalArgs_none (h Γ p hΓ) Γ p hΓ
    | cons p l =>
      obtain ⟨b, t⟩ := p
      simp only [List.any_cons, Bool.or_eq_false_iff] at hstar
      obtain ⟨rfl, _⟩ := hstar
      exact evalArgs_plain h
  rcases hf with ⟨id, rfl⟩ | ⟨T, rfl⟩ | ⟨a, o, fd, rfl, ho, hd⟩
  · exact callWith_builtin hstar (wpAny_mono args (fun a s₁ h₁ => h₁.2) fun _ _ e => e)
  · exact callWith_type hstar (wpAny_mono args (fun a s₁ h₁ => h₁.2) fun _ _ e => e)
  · exact callWith_function (o := o) (fd := fd) (wpAny_mono args (fun a s₁ h₁ => ⟨⟨h₁.1 _ _ ho, hd⟩, h₁.2⟩) fun _ _ e => e)
/-- a call's answer, from abstract arguments -/
noncomputable def CallOk (prog : Program) (w : World) (hb : Heap) (n : Nat) (f : Value) (m : List V → Option V) : Prop :=
  ∀ ⦃A : Around⦄ ⦃env : Env⦄ ⦃s₀ : Shared⦄ ⦃X C : List Addr⦄ ⦃ρ : Rho⦄ ⦃O : List (String × List Addr)⦄ ⦃s : Shared⦄ ⦃us : List Value⦄ ⦃vs : List V⦄ ⦃v : V⦄ ⦃Q : Value → Shared → Prop⦄ ⦃E : Value → Shared → Prop⦄,
    RoomF A n → InF prog w hb s₀ X env C ρ O s → Reps prog w s₀.heap (WW env C O) s.heap us vs → m vs = some v → (∀ u s', Keeps s s' → Rep prog w s₀.heap (WW env C O) s'.heap u v → Q u s') → wpAny (model prog w) A (call f us) Q E s
theorem Ev.call {x : String} {f : Value} {es : List Expr} {np pos : Pos} {ms : Rho → Option (List V)} {m : List V → Option V} (hx : isGlob sc x = true) (hg : GName hb x f) (hf : Calls hb f) (h : Evs prog w hb n sc es ms) (hc : CallOk prog w hb n f m)
    (hstar : ∀ env : Env, (backTo pos (starEach es env)).any (·.1) = false := by intro _; rfl) : Ev prog w hb n sc (.Call (.Name (Str.ofString x) np) es [] pos) (fun ρ => (ms ρ).bind m) := by
  intro A env s₀ X C ρ O s v Q E hs hA I hm hQ
  obtain ⟨vs, hvs, hm⟩ := Option.bind_eq_some_iff.mp hm
  show wpAny _ _ (eval (.Name (Str.ofString x) np) env >>= fun f => callWith pos f [] (backTo pos (starEach es env)) []) _ _ s
  refine wpAny_bind (eval_glob I (by rw [hs]; exact hx) hg (callWith_ok hf (hstar env) (h hs hA I hvs fun us s₁ k₁ r₁ => ⟨(I.grow k₁).base.grow, ?_⟩)))
  exact hc hA (I.grow k₁) r₁ hm fun u s' k r => hQ u s' (keeps_trans k₁ k) r
theorem CallOk.fn {a : Addr} {m : List PyData → Option PyData} (h : Fn prog w hb n a m) : CallOk prog w hb n (.ref a) (fun vs => (m (vs.map (·.x))).map fun y => ⟨y, .d⟩) := by
  intro A env s₀ X C ρ O s us vs v Q E hA I r hm hQ
  obtain ⟨y, hy, rfl⟩ := Option.map_eq_some_iff.mp hm
  obtain ⟨as, rd, c, _⟩ := r.rds
  refine h hA.toRoom I.base rd c hy fun u bs s' k ru cu fr => hQ u s' k ⟨bs, ru, cu, fun a ha => ?_⟩
  exact I.fresh (fr a ha)
/-- a def of the text called by its name -/
theorem Ev.fn {x : String} {a : Addr} {es : List Expr} {np pos : Pos} {ms : Rho → Option (List V)} {m : List PyData → Option PyData} {o : Obj} {fd : FuncData} (hx : isGlob sc x = true) (hg : GName hb x (.ref a)) (ho : hb.get? a = some o) (hd : o.data = .func fd)
    (h : Evs prog w hb n sc es ms) (hc : Fn prog w hb n a m) (hstar : ∀ env : Env, (backTo pos (starEach es env)).any (·.1) = false := by intro _; rfl) :
    Ev prog w hb n sc (.Call (.Name (Str.ofString x) np) es [] pos) (fun ρ => (ms ρ).bind fun vs => (m (vs.map (·.x))).map fun y => ⟨y, .d⟩) :=
  Ev.call hx hg (.inr (.inr ⟨a, o, fd, rfl, ho, hd⟩)) h (CallOk.fn hc) hstar
/-! ## built-ins -/
noncomputable def aLen : PyData → Option PyData
  | .list xs => some (.int xs.length)
  | .tuple xs => some (.int xs.length)
  | .str x => some (.int x.length)
  | _ => none
theorem CallOk.len : CallOk prog w hb n (.builtin "len") (fun vs => match vs with | [v] => (aLen v.x).map fun y => ⟨y, .d⟩ | _ => none) := by
  intro A env s₀ X C ρ O s us vs v Q E hA I r hm hQ
  dsimp only at hm
  split at hm
  · rename_i a
    obtain ⟨y, hy, rfl⟩ := Option.map_eq_some_iff.mp hm
    obtain ⟨ax, af⟩ := a
    cases r with
    | cons r1 r2 =>
      cases r2
      obtain ⟨as, ra, ca, oa⟩ := r1
      have hz := sizeLine_small
      unfold aLen at hy
      dsimp only at *
      split at hy
      · cases hy
        cases ra with
        | list a1 a2 =>
          rw [wf_list] at ca
          refine call_len_list ⟨_, a1, rfl, _, rfl⟩ (by simp [a2.length]; omega) ?_
          rw [List.size_toArray, a2.length]
          exact hQ _ _ (keeps_toks s _) Rep.int
      · cases hy
        cases ra with
        | tuple a1 a2 =>
          rw [wf_tuple] at ca
          refine P.len_tuple a1 (by simp [a2.length]; omega) ?_
          rw [List.size_toArray, a2.length]
          exact hQ _ _ (keeps_toks s _) Rep.int
      · cases hy
        cases ra
        rw [wf_str] at ca
        exact P.len_str (by have := ca.2; omega) (hQ _ _ (keeps_toks s _) Rep.int)
      · cases hy
  · cases hm

/-- int() of a bool -/
theorem CallOk.int : CallOk prog w hb n (.type "int") (fun vs => match vs with | [v] => (match v.x with | .bool b => some ⟨.int (if b then 1 else 0), .d⟩ | _ => none) | _ => none) := by
  intro A env s₀ X C ρ O s us vs v Q E hA I r hm hQ
  dsimp only at hm
  split at hm
  · rename_i a
    obtain ⟨ax, af⟩ := a
    dsimp only at hm
    split at hm
    · cases hm
      cases r with
      | cons r1 r2 =>
        cases r2
        obtain ⟨as, ra, ca, oa⟩ := r1
        dsimp only at ra
        cases ra
        exact call_int_bool (hQ _ _ (keeps_toks s _) Rep.int)
    · cases hm
  · cases hm
/-- list() of a list or a tuple -/
theorem CallOk.list : CallOk prog w hb n (.type "list") (fun vs => match vs with | [v] => (match v.x with | .list xs => some (V.newL xs v.fl) | .tuple xs => some (V.newL xs v.fl) | _ => none) | _ => none) := by
  intro A env s₀ X C ρ O s us vs v Q E hA I r hm hQ
  dsimp only at hm
  split at hm
  · rename_i a
    obtain ⟨ax, af⟩ := a
    cases r with
    | cons r1 r2 =>
      cases r2
      obtain ⟨as, ra, ca, oa⟩ := r1
      dsimp only at ra hm ca oa
      have fin : ∀ {us : List Value} {xs : List PyData} {bs : List Addr} {h' : Heap} {c' : Nat}, RDs prog w s.heap us xs bs → wfs xs = true → xs.length ≤ sizeLine → FlOk s₀.heap (WW env C O) af bs → Grow s.heap h' → h'.get? s.heap.objs.size = some (lstObj us c') →
          Rep prog w s₀.heap (WW env C O) h' (.ref s.heap.objs.size) (V.newL xs af) := by
        intro us xs bs h' c' q1 q2 q3 q4 k q5
        have z := I.size_fresh
        refine ⟨s.heap.objs.size :: bs, .list q5 (q1.grow k), wf_list.mpr ⟨q3, q2⟩, ?_⟩
        cases e : flats xs with
        | true =>
          rw [q1.flat_foot e]
          simp only [V.newL, e, if_true]
          intro a ha
          rw [List.mem_singleton.mp ha]; exact z
        | false =>
          simp only [V.newL, e, Bool.false_eq_true, if_false]
          cases af with
          | d => exact fun a ha => (List.mem_cons.mp ha).elim (fun q => q ▸ z) (q4 a)
          | s => exact fun a ha => (List.mem_cons.mp ha).elim (fun q => q ▸ z.2) (q4 a)
          | t => trivial
      split at hm
      · cases hm
        cases ra with
        | list a1 a2 =>
          rw [wf_list] at ca
          refine call_list_seq _ (.inl rfl) a1 rfl rfl (fun h' c' k q => ?_) (by simp [a2.length]; exact ca.1)
          exact hQ _ _ ⟨h', s.toks, rfl, k⟩ (fin a2 ca.2 ca.1 (oa.mono fun _ h => .tail _ h) k q)
      · cases hm
        cases ra with
        | tuple a1 a2 =>
          rw [wf_tuple] at ca
          refine call_list_seq _ (.inr rfl) a1 rfl rfl (fun h' c' k q => ?_) (by simp [a2.length]; exact ca.1)
          exact hQ _ _ ⟨h', s.toks, rfl, k⟩ (fin a2 ca.2 ca.1 oa k q)
      · cases hm
  · cases hm
/-! ## range -/
noncomputable def rangeOf (k : Int) : List PyData := (List.range k.toNat).map fun (i : Nat) => .int (i : Int)
theorem It.range {tgt e : Expr} {np pos : Pos} {m : Rho → Option V} (hx : isGlob sc "range" = true) (hg : GName hb "range" (.type "range")) (h : Ev prog w hb n sc e m) (he : ∀ env, starEach [e] env = [(false, eval e env)] := by intro _; rfl) :
    It prog w hb n sc tgt (.Call (.Name (Str.ofString "range") np) [e] [] pos) (fun ρ => (m ρ).bind fun v => match v.x with | .int k => if -(2 ^ 62) ≤ k ∧ k ≤ sizeLine then some (rangeOf k, .d) else none | _ => none) := by
  refine ⟨fun _ _ => rfl, ?_⟩
  intro A env s₀ X C ρ O s v Q E hs hA I hm hQ
  obtain ⟨⟨ax, af⟩, ha, hm⟩ := Option.bind_eq_some_iff.mp hm
  dsimp only at hm
  split at hm
  · rename_i k
    split at hm
    · rename_i hk
      cases hm
      show wpAny _ _ (eval (.Name (Str.ofString "range") np) env >>= fun f => callWith pos f [] (backTo pos (starEach [e] env)) []) _ _ s
      refine wpAny_bind (eval_glob I (by rw [hs]; exact hx) hg (callWith_ok (hb := hb) (.inr (.inl ⟨_, rfl⟩)) (by rw [he]; rfl) (wpAny_items_cons (h hs hA I ha fun u s₁ k₁ r₁ => wpAny_items_nil ⟨(I.grow k₁).base.grow, ?_⟩) (he env))))
      obtain ⟨as, ra, ca, oa⟩ := r₁
      dsimp only at ra
      cases ra
      refine call_range_1 (wpAny_pyIter_range (IsRange.new _ _ _ _ _ _ _) (small_one (by decide) (by decide) (by omega) (Int.lt_of_le_of_lt hk.2 (by decide))) ?_)
      have hsz : Builtin.Range.rangeSize 0 k 1 = (k.toNat : Int) := by
        rw [rangeSize_one]
        split <;> omega
      have hlen : (rangeOf k).length = k.toNat := by simp [rangeOf]
      have fresh : ∀ d, s.heap.get? (s₁.heap.objs.size + d) = none := fun d => by
        cases e : s.heap.get? (s₁.heap.objs.size + d) with
        | none => rfl
        | some o =>
          exact absurd (Heap.lt_size (keeps_grow k₁ _ _ e)) (Nat.not_lt.mpr (Nat.le_add_right _ _))
      refine hQ _ [] _ _ _ (keeps_trans k₁ ⟨_, _, rfl, Grow.trans (Grow.push _ _) (Grow.push _ _)⟩) (Stream.ofWalks (Walks.range hA.handled _ 0 1 k.toNat) hlen (fun i v x h hv hx => ?_) fun i h st => ⟨_, _, _, st, rfl, rfl, by decide⟩) ?_ FlOk.nil ?_ ?_ fun b hb' => ?_
      · obtain ⟨t, rfl⟩ := hv
        have hi : i < k.toNat := by rw [← hlen]; exact (List.getElem?_eq_some_iff.mp hx).1
        simp only [rangeOf, List.getElem?_map, List.getElem?_range hi, Option.map_some, Option.some.injEq] at hx
        subst hx
        have e : (0 : Int) + (i : Int) * 1 = i := by omega
        rw [e]
        exact .int _ _
      · show IsRangeIter _ _ _ _ _
        rw [hsz]
        refine Eq.trans (Heap.get?_push_size _ ?_) ?_
        · rfl
        · simp
      · rw [wfs_iff]
        intro y hy
        obtain ⟨i, _, rfl⟩ := List.mem_map.mp hy
        rfl
      · rw [hlen]; omega
      · rw [List.mem_singleton.mp hb']
        have := fresh 1
        simpa using this
    · cases hm
  · cases hm
end Mine

/-! text PF11 -/
set_option autoImplicit false
namespace Mine
open PySem PySem.Calls
variable {prog : Program} {w : World} {hb : Heap} {n : Nat} {sc : Scope}
/-! ## a def of the text -/
theorem lookup_zip {α β : Type} [BEq α] [LawfulBEq α] : ∀ {ns : List α} {us : List β}, ns.length = us.length → ∀ n ∈ ns, ((ns.zip us).lookup n).isSome = true
  | [], _, _, _, h => nomatch h
  | a :: ns, [], h, _, _ => by simp at h
  | a :: ns, u :: us, h, n, hn => by
    simp only [List.zip_cons_cons, List.lookup_cons]
    cases e : n == a with
    | true => rfl
    | false =>
      rcases List.mem_cons.mp hn with rfl | hn
      · simp at e
      · exact lookup_zip (by simpa using h) n hn
theorem filterMap_zip {α β : Type} [BEq α] [LawfulBEq α] {l : List (α × β)} : ∀ {ns : List α} {us : List β}, ns.length = us.length → ns.Nodup → (∀ n ∈ ns, l.lookup n = (ns.zip us).lookup n) → ns.filterMap (fun n => (l.lookup n).map (n, ·)) = ns.zip us
  | [], _, _, _, _ => rfl
  | a :: ns, [], h, _, _ => by simp at h
  | a :: ns, u :: us, h, hn, hl => by
    rw [List.nodup_cons] at hn
    have h0 := hl a (.head _)
    simp only [List.zip_cons_cons, List.lookup_cons, beq_self_eq_true] at h0
    rw [List.filterMap_cons, h0]
    simp only [Option.map_some, List.zip_cons_cons]
    congr 1
    refine filterMap_zip (by simpa using h) hn.2 fun n hm => ?_
    have h1 := hl n (.tail _ hm)
    have : (n == a) = false := by
      cases e : n == a with
      | false => rfl
      | true => rw [eq_of_beq e] at hm; exact absurd hm hn.1
    simp only [List.zip_cons_cons, List.lookup_cons, this] at h1
    exact h1
theorem bind_plain {fd : FuncData} {ps : List Arg} (hp : fd.params = ⟨[], ps, none, [], [], none, []⟩) (hd : fd.defaults = .none) {us : List Value} (hl : ps.length = us.length) (hn : (ps.map (·.arg)).Nodup) :
    bindArgs fd ⟨us, []⟩ = pure ((ps.map (·.arg)).zip us) := by
  have h1 := lookup_zip (ns := ps.map (·.arg)) (us := us) (by simpa using hl)
  have h2 := filterMap_zip (ns := ps.map (·.arg)) (us := us) (l := (ps.map (·.arg)).zip us) (by simpa using hl) hn (fun _ _ => rfl)
  unfold bindArgs
  have h3 : (List.take (ps.map (·.arg)).length (ps.map (·.arg))).filter (fun n => (((ps.map (·.arg)).zip us).lookup n).isNone) = [] := by
    rw [List.take_length, List.filter_eq_nil_iff]
    intro n hm
    have := h1 n hm
    cases e : ((ps.map (·.arg)).zip us).lookup n with
    | none => rw [e] at this; cases this
    | some _ => simp
  have h4 : ¬ us.length > ps.length := by omega
  simp only [List.length_map] at h3
  simp [hp, hd, seqItems?, notAStandIn, hl]
  split
  · rename_i h
    exfalso
    simp only [hp, List.map_nil, List.nil_append, List.length_map, List.drop_nil, List.length_nil, Nat.sub_zero, h3] at h
    simp at h
  · rw [List.filterMap_map] at h2
    rw [h2]
noncomputable def rho0 (ps : List String) (xs : List PyData) : Rho := fun y => ((ps.zip xs).lookup y).map fun x => .val (V.fix x .s)
noncomputable def outOf : Out → Option PyData
  | .ret y => some y
  | .next _ => some .none
  | _ => none
theorem bindL_other {k : Str → Option NameKind} {y : Str} : ∀ {binds : List (Str × Value)} {m : Str → Option Value}, (∀ p ∈ binds, p.1 ≠ y) → bindL k binds m y = m y
  | [], _, _ => rfl
  | (a, v) :: r, m, h => by
    rw [bindL, bindL_other fun p hp => h p (.tail _ hp)]
    split
    · exact if_neg fun e => h _ (.head _) e.symm
    · rfl
theorem bindC_other {k : Str → Option NameKind} {y : Str} : ∀ {binds : List (Str × Value)} {m : Str → Option Value}, (∀ p ∈ binds, p.1 ≠ y) → bindC k binds m y = m y
  | [], _, _ => rfl
  | (a, v) :: r, m, h => by
    rw [bindC, bindC_other fun p hp => h p (.tail _ hp)]
    split
    · rfl
    · exact if_neg fun e => h _ (.head _) e.symm
theorem zip_names {ps : List String} {us : List Value} {y : String} (h : y ∉ ps) : ∀ p ∈ (ps.map Str.ofString).zip us, p.1 ≠ Str.ofString y := by
  intro p hp e
  have := (List.of_mem_zip hp).1
  obtain ⟨z, hz, q⟩ := List.mem_map.mp this
  rw [← q] at e
  exact h (ofString_inj e ▸ hz)
/-- the parameters at the start -/
theorem bind_at {k : Str → Option NameKind} {h : Heap} : ∀ {ps : List String} {us : List Value} {xs : List PyData} {as : List Addr} {m c : Str → Option Value}, ps.Nodup → RDs prog w h us xs as → ∀ {y : String} {x : PyData}, (ps.zip xs).lookup y = some x →
    ∃ u bs, RD prog w h u x bs ∧ (∀ b ∈ bs, b ∈ as) ∧ x ∈ xs ∧ (k (Str.ofString y) = some .local → bindL k ((ps.map Str.ofString).zip us) m (Str.ofString y) = some u) ∧ (k (Str.ofString y) ≠ some .local → bindC k ((ps.map Str.ofString).zip us) c (Str.ofString y) = some u)
  | [], _, _, _, _, _, _, _, y, x, e => by simp at e
  | p :: ps, _, _, _, m, c, hn, .nil, y, x, e => by simp at e
  | p :: ps, _, _, _, m, c, hn, .cons (u := u) (us := us) (x := d) (xs := ds) (as := as) (bs := bs) r rs, y, x, e => by
    rw [List.nodup_cons] at hn
    simp only [List.zip_cons_cons, List.lookup_cons] at e
    by_cases hy : y = p
    · subst hy
      simp only [beq_self_eq_true] at e
      cases e
      refine ⟨u, as, r, fun b hb' => List.mem_append_left _ hb', .head _, fun hk => ?_, fun hk => ?_⟩
      · rw [List.map_cons, List.zip_cons_cons, bindL, bindL_other (zip_names hn.1), if_pos hk]; exact if_pos rfl
      · rw [List.map_cons, List.zip_cons_cons, bindC, bindC_other (zip_names hn.1), if_neg hk]; exact if_pos rfl
    · have hyp : (y == p) = false := by simpa using hy
      rw [hyp] at e
      obtain ⟨u', bs', q1, q2, q3, q4, q5⟩ := bind_at (k := k) hn.2 rs e
      exact ⟨u', bs', q1, fun b hb' => List.mem_append_right _ (q2 b hb'), .tail _ q3, q4, q5⟩
noncomputable def cellsOnce (sc : Scope) : Bool := decide ((cellsFrom 0 sc.names []).map (·.1)).Nodup

theorem cells_some {x : Str} : ∀ (names : List (Str × NameKind)) (k : Nat) (acc : List (Str × Addr)), names.lookup x = some .cell ∨ (acc.lookup x).isSome = true → ((cellsFrom k names acc).lookup x).isSome = true
  | [], _, _, h => h.elim (fun e => by cases e) id
  | (y, kd) :: r, k, acc, h => by
    unfold cellsFrom
    by_cases hk : (kd == .cell) = true
    · rw [if_pos hk]
      refine cells_some r (k + 1) ((y, k) :: acc) ?_
      by_cases hy : (x == y) = true
      · exact .inr (by rw [List.lookup_cons, hy]; rfl)
      · have hy' : (x == y) = false := by simpa using hy
        refine h.imp (fun e => ?_) fun e => ?_
        · rw [List.lookup_cons, hy'] at e; exact e
        · rw [List.lookup_cons, hy']; exact e
    · rw [if_neg hk]
      refine cells_some r k acc ?_
      by_cases hy : (x == y) = true
      · refine .inr (h.elim (fun e => ?_) id)
        rw [List.lookup_cons, hy] at e
        exact absurd (by rw [Option.some.inj e]; rfl) hk
      · have hy' : (x == y) = false := by simpa using hy
        refine h.imp (fun e => ?_) id
        rw [List.lookup_cons, hy'] at e; exact e
theorem isVar_kinds {x : String} (h : isVar sc x = true) : sc.names.lookup (Str.ofString x) = some .local ∨ sc.names.lookup (Str.ofString x) = some .cell := by
  simp only [isVar, Bool.and_eq_true, Bool.or_eq_true, decide_eq_true_eq] at h
  exact h.1
theorem pairwise_inj {cs : List (Str × Addr)} (h : cs.Pairwise fun x y => x.2 ≠ y.2) {x y : Str} {c : Addr} (hx : (x, c) ∈ cs) (hy : (y, c) ∈ cs) : x = y := by
  induction cs with
  | nil => cases hx
  | cons p cs ih =>
    rw [List.pairwise_cons] at h
    rcases List.mem_cons.mp hx with e1 | m1 <;> rcases List.mem_cons.mp hy with e2 | m2
    · rw [← e1] at e2; exact (congrArg Prod.fst e2).symm
    · exact absurd (by rw [← e1]) (h.1 _ m2)
    · exact absurd (by rw [← e2]) (h.1 _ m1)
    · exact ih h.2 m1 m2
/-- the frame of a def at its start -/
theorem InS.start {s s' : Shared} {env : Env} {ps : List String} {us : List Value} {xs : List PyData} {as : List Addr} (b : Base prog hb s.heap) (hsc : env.scope = sc) (hk : sc.kind = .function) (hg : env.globals = mainGlobals) (hbu : env.builtins = builtinsNs)
    (hcells : env.cells = cellsFrom (env.locals + 1) sc.names []) (honce : cellsOnce sc = true) (hnd : ps.Nodup) (rd : RDs prog w s.heap us xs as) (hw : wfs xs = true)
    (x : InCallC s env.locals (bindL env.kindOf ((ps.map Str.ofString).zip us) fun _ => none) env.cells (bindC env.kindOf ((ps.map Str.ofString).zip us) fun _ => none) s') :
    InS prog w hb s [] env (env.cells.map (·.2)) (rho0 ps xs) [] s' := by
  have keep := x.toInCall.keep
  have hL : s.heap.get? env.locals = none := get?_size_none _ x.toInCall.fresh
  have hC : ∀ c ∈ env.cells.map (·.2), s.heap.get? c = none ∧ env.locals < c := by
    intro c hc
    obtain ⟨⟨nm, c'⟩, hm, rfl⟩ := List.mem_map.mp hc
    have := x.above nm c' hm
    exact ⟨get?_size_none _ (Nat.le_trans x.toInCall.fresh (Nat.le_of_lt this)), this⟩
  have honce' : (env.cells.map (·.1)).Nodup := by
    rw [hcells, PyProof.Rows.cellsFrom_names sc.names (env.locals + 1) 0 [] [] rfl]
    exact of_decide_eq_true honce
  have hcell : ∀ c ∈ env.cells.map (·.2), ∃ v, s'.heap.IsCell c v := by
    intro c hc
    obtain ⟨⟨nm, c'⟩, hm, rfl⟩ := List.mem_map.mp hc
    exact ⟨_, x.cell nm c' (PyProof.Rows.lookup_of_mem_nodup honce' hm)⟩
  have hWW : ∀ a, a ∈ WW env (env.cells.map (·.2)) [] ↔ a = env.locals ∨ a ∈ env.cells.map (·.2) := by
    intro a; simp [WW]
  have foot : ∀ {u : Value} {d : PyData} {bs : List Addr}, RD prog w s.heap u d bs → wf d = true → Rep prog w s.heap (WW env (env.cells.map (·.2)) []) s'.heap u (V.fix d .s) := by
    intro u d bs r c
    refine Rep.fixed (r.grow keep) c fun a ha hq => ?_
    obtain ⟨o, e⟩ := r.alive a ha
    rcases (hWW a).mp hq with q | q
    · rw [q, hL] at e; cases e
    · rw [(hC a q).1] at e; cases e
  have vars : ∀ y vv, rho0 ps xs y = some vv → ∃ u, RepVV prog w s.heap (WW env (env.cells.map (·.2)) []) [] s'.heap y u vv ∧
      (env.kindOf (Str.ofString y) = some .local → bindL env.kindOf ((ps.map Str.ofString).zip us) (fun _ => none) (Str.ofString y) = some u) ∧ (env.kindOf (Str.ofString y) ≠ some .local → bindC env.kindOf ((ps.map Str.ofString).zip us) (fun _ => none) (Str.ofString y) = some u) := by
    intro y vv e
    obtain ⟨d, hd, rfl⟩ := Option.map_eq_some_iff.mp e
    obtain ⟨u, bs, q1, q2, q3, q4, q5⟩ := bind_at (k := env.kindOf) (m := fun _ => none) (c := fun _ => none) hnd rd hd
    refine ⟨u, ⟨?_, foot q1 ((wfs_iff _).mp hw _ q3)⟩, q4, q5⟩
    unfold V.fix
    split
    · exact .inl rfl
    · exact .inr rfl
  refine ⟨⟨x.toInCall.same, b.trans keep, fun b o e _ => keep b o e, fun b o e => ⟨o, keep b o e⟩, fun a ha => ?_, fun a ha => ?_, ?_, by rw [hsc]; exact hk, hg, hbu, fun y e => ?_, ⟨_, x.toInCall.ns, fun y vv e1 e2 => ?_⟩, fun y vv e1 e2 => ?_⟩, fun y e => ?_, fun y z c h1 h2 => ?_, fun y c hc => have hm : c ∈ env.cells.map (·.2) := List.mem_map.mpr ⟨_, lookup_mem hc, rfl⟩; ⟨hm, hcell c hm⟩⟩
  · rcases (hWW a).mp ha with rfl | ha
    · obtain ⟨o, es, ep, ho, hd, _⟩ := x.toInCall.ns
      exact ⟨o, ho, fun ⟨_, _, q⟩ => by rw [q] at hd; cases hd⟩
    · obtain ⟨v, o, ho, hd⟩ := hcell a ha
      exact ⟨o, ho, fun ⟨_, _, q⟩ => by rw [q] at hd; cases hd⟩
  · have h0 : s.heap.get? a = none := by
      rcases (hWW a).mp ha with rfl | ha
      · exact hL
      · exact (hC a ha).1
    refine ⟨?_, fun _ => h0⟩
    cases e : hb.get? a with
    | none => rfl
    | some o => rw [b.grow _ _ e] at h0; cases h0
  · simp only [WW, List.flatMap_nil, List.append_nil, List.nodup_cons]
    refine ⟨fun hm => Nat.lt_irrefl _ (hC _ hm).2, ?_⟩
    have := x.apart
    rw [List.Nodup, List.pairwise_map]
    exact this
  · have hs : (env.cells.lookup y).isSome = true := by
      rw [hcells]
      exact cells_some _ _ _ (.inl (by rw [← hsc]; exact e))
    exact Option.isSome_iff_exists.mp hs
  · obtain ⟨u, r, q1, _⟩ := vars y vv e1
    exact ⟨u, q1 e2, r⟩
  · obtain ⟨u, r, _, q2⟩ := vars y vv e1
    have hs : (env.cells.lookup (Str.ofString y)).isSome = true := by
      rw [hcells]
      exact cells_some _ _ _ (.inl (by rw [← hsc]; exact e2))
    obtain ⟨c, hc⟩ := Option.isSome_iff_exists.mp hs
    refine ⟨c, u, hc, ?_, r⟩
    have := x.cell _ c hc
    rw [q2 (by rw [e2]; simp)] at this
    exact this
  · have hs : (env.cells.lookup (Str.ofString y)).isSome = true := by
      rw [hcells]
      exact cells_some _ _ _ (.inl (by rw [← hsc]; exact e))
    obtain ⟨c, hc⟩ := Option.isSome_iff_exists.mp hs
    exact ⟨c, hc, List.mem_map.mpr ⟨_, lookup_mem hc, rfl⟩⟩
  · exact pairwise_inj x.apart (lookup_mem h1) (lookup_mem h2)
/-- what is asked of a def's object -/
structure DefOk (hb : Heap) (f : Addr) (sc : Scope) (ps : List String) (body : List Stmt) : Prop where
  there : ∃ fo fd args, hb.get? f = some fo ∧ fo.data = .func fd ∧ fd.params = ⟨[], args, none, [], [], none, []⟩ ∧ args.map (·.arg) = ps.map Str.ofString ∧ fd.body = .stmts body ∧ fd.scope = sc ∧ fd.closure = [] ∧ fd.defaults = .none ∧
    fd.globals = mainGlobals ∧ fd.builtins = builtinsNs ∧ hb.CodeRec fd.code fd.qualname
  kind : sc.kind = .function
  gen : sc.isGenerator = false
  co : sc.isCoroutine = false
  once : cellsOnce sc = true
  names : ps.Nodup
  vars : ∀ x ∈ ps, isVar sc x = true
noncomputable def fnD (ps : List String) (m : Rho → Option Out) (xs : List PyData) : Option PyData := if xs.length = ps.length then (m (rho0 ps xs)).bind outOf else none
theorem Fn.def {f : Addr} {ps : List String} {body : List Stmt} {m : Rho → Option Out} (D : DefOk hb f sc ps body) (h : St prog w hb n sc body m) : Fn prog w hb (n + 1) f (fnD ps m) := by
  intro A s us xs as y Q E hA b rd hw hm hQ
  obtain ⟨fo, fd, args, ho, hd, hp, hnm, hbd, hsc, hcl, hdf, hgl, hbu, hcr⟩ := D.there
  unfold fnD at hm
  split at hm
  · rename_i hlen
    obtain ⟨o, ho', hy⟩ := Option.bind_eq_some_iff.mp hm
    have hps : args.length = ps.length := by simpa using congrArg List.length hnm
    have hul : args.length = us.length := by rw [hps, rd.length, hlen]
    have hnames : (args.map (·.arg)).Nodup := by
      rw [hnm]
      rw [List.Nodup, List.pairwise_map]
      exact D.names.imp fun h e => h (ofString_inj e)
    refine wpAny_call (codeAny_call_function (fd := fd) (body := body) (by have := hA.depth; omega) (b.grow _ _ ho) hd (by rw [hsc]; exact D.co) (by rw [hsc]; exact D.gen) hbd (hcr.keeps b.grow) ?_)
    rw [bind_plain hp hdf hul hnames, hnm, hsc, hgl, hcl, hbu]
    refine wpAny_pure (wpAny_newFunctionEnv_cells D.kind (fun z hz => ?_) fun env he s' x => ?_)
    · have := (List.of_mem_zip hz).1
      obtain ⟨p, hp', e⟩ := List.mem_map.mp this
      rw [← e]
      refine (isVar_kinds (D.vars p hp')).imp id fun q => ⟨q, cells_some _ _ _ (.inl q)⟩
    · have e1 : env.scope = sc := by rw [he]; rfl
      have e2 : env.globals = mainGlobals := by rw [he]; rfl
      have e3 : env.builtins = builtinsNs := by rw [he]; rfl
      have e4 : env.cells = cellsFrom (env.locals + 1) sc.names [] := by rw [he]; rfl
      have I := InS.start (w := w) b e1 D.kind e2 e3 e4 D.once D.names rd hw x
      refine ⟨I.base.nolimit, codeAny_func ?_⟩
      have pe : PlainEnv env := ⟨by rw [e1]; exact D.gen, by rw [e1]; exact D.co, e3, e2⟩
      refine h e1 (hA.deeper pe) I ho' ?_
      have keeps : ∀ {ρ : Rho} {O' : List (String × List Addr)} {s'' : Shared}, InS prog w hb s [] env (env.cells.map (·.2)) ρ O' s'' → Keeps s s'' := by
        intro ρ O' s'' J
        obtain ⟨h', tk, e⟩ := J.same
        exact ⟨h', tk, e, fun b o eb => by have := J.keep b o eb (by simp); rw [e] at this; exact this⟩
      cases o with
      | next ρ =>
        cases hy
        intro O' s'' J _
        exact hQ .none [] s'' (keeps J) .none rfl fun _ q => nomatch q
      | ret z =>
        cases hy
        intro u as' O' ρ s'' J ru cu fr
        exact hQ u as' s'' (keeps J) ru cu fun a ha => (fr a ha).elim (fun q => nomatch q) id
      | brk ρ => cases hy
      | cont ρ => cases hy
  · cases hm
end Mine

/-! text PF12 -/
set_option autoImplicit false
namespace Mine
open PySem PySem.Calls
variable {prog : Program} {w : World} {hb : Heap} {n : Nat} {sc : Scope}

/-! ## while -/
noncomputable def whileD (t : Rho → Option Bool) (b : Rho → Option Out) : Nat → Rho → Option Out
  | 0, _ => none
  | k + 1, ρ => (t ρ).bind fun c => if c then (b ρ).bind fun o => (match o with
      | .next ρ' => whileD t b k ρ'
      | .cont ρ' => whileD t b k ρ'
      | .brk ρ' => some (.next ρ')
      | .ret y => some (.ret y)) else some (.next ρ)
theorem S1.while {t : Expr} {body : List Stmt} {pos : Pos} {mt : Rho → Option Bool} {mb : Rho → Option Out} (k : Nat) (ht : Tr prog w hb n sc t mt) (hbd : St prog w hb n sc body mb) : S1 prog w hb n sc (.While t body [] pos) (whileD mt mb k) := by
  intro A env s₀ X C ρ O s r Q E hs hA I hm hQ
  refine wpAny_While (codeAny_whileLoop (fun i s₂ => ∃ ρ₂ O₂, InS prog w hb s₀ X env C ρ₂ O₂ s₂ ∧ Step s.heap s₂.heap (WW env C O) (WW env C O₂) ∧ whileD mt mb i ρ₂ = some r) ?_ k ⟨ρ, O, I, Step.refl _ _, hm⟩)
  rintro i s₂ ⟨ρ₂, O₂, I₂, T₂, hm₂⟩
  cases i with
  | zero => cases hm₂
  | succ i =>
    simp only [whileD] at hm₂
    obtain ⟨c, hc, hm₂⟩ := Option.bind_eq_some_iff.mp hm₂
    refine ht hs hA I₂.toInF hc fun s₃ k₃ => ?_
    have I₃ := I₂.grow k₃
    have T₃ := T₂.trans (Step.of_grow (keeps_grow k₃))
    cases c with
    | true =>
      obtain ⟨o, ho, hm₃⟩ := Option.bind_eq_some_iff.mp hm₂
      refine hbd hs hA I₃ ho ?_
      cases o with
      | next ρ₄ => exact fun O₄ s₄ I₄ T₄ => ⟨i, Nat.lt_succ_self _, ρ₄, O₄, I₄, T₃.trans T₄, hm₃⟩
      | cont ρ₄ => exact fun O₄ s₄ I₄ T₄ => ⟨i, Nat.lt_succ_self _, ρ₄, O₄, I₄, T₃.trans T₄, hm₃⟩
      | brk ρ₄ => cases hm₃; exact fun O₄ s₄ I₄ T₄ => hQ O₄ s₄ I₄ (T₃.trans T₄)
      | ret y => cases hm₃; exact hQ
    | false =>
      cases hm₂
      exact wpAny_execs_nil (hQ O₂ s₃ I₃ T₃)
end Mine

/-! text PF13 -/
set_option autoImplicit false
namespace Mine
open PySem PySem.Calls
variable {prog : Program} {w : World} {hb : Heap} {n : Nat} {sc : Scope}

/-! ## comprehensions: the block -/
noncomputable def relS (scope sc : Scope) : Scope :=
  { scope with names := scope.names.map fun (x, k) => if (k == .free && sc.kind == .function && sc.names.lookup x == some .cell) then (x, .cell) else (x, k) }
theorem relabel_eq (scope : Scope) (env : Env) : relabel scope env = relS scope env.scope := rfl
noncomputable def clos (cells : List (Str × Addr)) : List (Str × NameKind) → List (Str × Addr) → List (Str × Addr)
  | [], acc => acc
  | (x, k) :: r, acc => if k == .free then clos cells r ((x, (cells.lookup x).getD 0) :: acc) else clos cells r acc
theorem closureFor_clos {scope : Scope} {env : Env} (h : ∀ p ∈ scope.names, p.2 = .free → ∃ c, env.cells.lookup p.1 = some c) : closureFor scope env = pure (clos env.cells scope.names []) := by
  unfold closureFor
  have key : ∀ (l : List (Str × NameKind)) (acc : List (Str × Addr)), (∀ p ∈ l, p.2 = .free → ∃ c, env.cells.lookup p.1 = some c) →
      (forIn l acc fun (p : Str × NameKind) (cs : List (Str × Addr)) => (if (p.2 == NameKind.free) = true then do
          let a ← cellOf env p.1
          pure (ForInStep.yield ((p.1, a) :: cs))
        else pure (ForInStep.yield cs) : Sem (ForInStep (List (Str × Addr))))) = pure (clos env.cells l acc) := by
    intro l
    induction l with
    | nil => intro acc _; rfl
    | cons p l ih =>
      intro acc h
      obtain ⟨x, k⟩ := p
      rw [List.forIn_cons]
      by_cases hk : (k == NameKind.free) = true
      · obtain ⟨c, hc⟩ := h (x, k) (.head _) (by simpa using hk)
        simp only [hk, if_true, clos]
        have e : cellOf env x = pure c := by unfold cellOf; rw [hc]
        simp only [e, pure_bind, hc, Option.getD_some]
        exact ih _ fun p hp => h p (.tail _ hp)
      · simp only [hk, Bool.false_eq_true, if_false, clos, pure_bind]
        exact ih _ fun p hp => h p (.tail _ hp)
  have := key scope.names [] h
  simpa using this
theorem clos_lookup {cells : List (Str × Addr)} {x : Str} {c : Addr} (hc : cells.lookup x = some c) : ∀ (names : List (Str × NameKind)) (acc : List (Str × Addr)), (acc.lookup x = none ∨ acc.lookup x = some c) → ((x, NameKind.free) ∈ names ∨ acc.lookup x = some c) → (clos cells names acc).lookup x = some c
  | [], acc, _, h => h.elim (fun q => nomatch q) id
  | (y, k) :: r, acc, h0, h => by
    unfold clos
    by_cases hk : (k == NameKind.free) = true
    · rw [if_pos hk]
      by_cases hy : x = y
      · subst hy
        have e : ((x, (cells.lookup x).getD 0) :: acc).lookup x = some c := by rw [List.lookup_cons, beq_self_eq_true, hc]; rfl
        exact clos_lookup hc r _ (.inr e) (.inr e)
      · have e : ((y, (cells.lookup y).getD 0) :: acc).lookup x = acc.lookup x := by
          rw [List.lookup_cons]
          have : (x == y) = false := by simpa using hy
          rw [this]
        refine clos_lookup hc r _ (by rw [e]; exact h0) ?_
        rw [e]
        refine h.imp (fun q => ?_) id
        rcases List.mem_cons.mp q with q | q
        · exact absurd (congrArg Prod.fst q) hy
        · exact q
    · rw [if_neg hk]
      refine clos_lookup hc r acc h0 (h.imp (fun q => ?_) id)
      rcases List.mem_cons.mp q with q | q
      · have := congrArg Prod.snd q
        simp only at this
        rw [← this] at hk
        exact absurd rfl hk
      · exact q
/-- what is asked of a comprehension's block -/
structure CompOk (scope sc : Scope) (locs : List String) : Prop where
  kind : scope.kind = .function
  nocell : ∀ p ∈ scope.names, p.2 ≠ .cell
  free : ∀ p ∈ scope.names, p.2 = .free → sc.names.lookup p.1 = some .cell
  locs : ∀ p ∈ scope.names, p.2 = .local → scope.names.lookup p.1 = some .local ∧ p.1 ∈ locs.map Str.ofString
noncomputable def compOk (scope sc : Scope) (locs : List String) : Bool :=
  decide (scope.kind = .function) && scope.names.all (fun p => decide (p.2 ≠ .cell) && (decide (p.2 ≠ .free) || decide (sc.names.lookup p.1 = some .cell)) && (decide (p.2 ≠ .local) || (decide (scope.names.lookup p.1 = some .local) && (locs.map Str.ofString).contains p.1)))
theorem CompOk.of {scope sc : Scope} {locs : List String} (h : compOk scope sc locs = true) : CompOk scope sc locs := by
  simp only [compOk, Bool.and_eq_true, List.all_eq_true, decide_eq_true_eq, Bool.or_eq_true] at h
  refine ⟨h.1, fun p hp => (h.2 p hp).1.1, fun p hp e => (h.2 p hp).1.2.resolve_left (fun q => q e), fun p hp e => ?_⟩
  obtain ⟨a, b⟩ := (h.2 p hp).2.resolve_left (fun q => q e)
  exact ⟨a, by simpa using b⟩
theorem relS_cell {scope : Scope} {x : Str} (hn : ∀ p ∈ scope.names, p.2 ≠ .cell) (h : (relS scope sc).names.lookup x = some .cell) : (x, NameKind.free) ∈ scope.names ∧ sc.names.lookup x = some .cell := by
  unfold relS at h
  simp only at h
  have key : ∀ (l : List (Str × NameKind)), (∀ p ∈ l, p.2 ≠ .cell) → (l.map fun (x, k) => if (k == NameKind.free && sc.kind == .function && sc.names.lookup x == some .cell) then (x, NameKind.cell) else (x, k)).lookup x = some .cell → (x, NameKind.free) ∈ l ∧ sc.names.lookup x = some .cell := by
    intro l
    induction l with
    | nil => intro _ h; cases h
    | cons p l ih =>
      obtain ⟨y, k⟩ := p
      intro hn h
      rw [List.map_cons] at h
      by_cases hc : (k == NameKind.free && sc.kind == .function && sc.names.lookup y == some .cell) = true
      · simp only [hc, if_true, List.lookup_cons] at h
        split at h
        · rename_i e
          have e := eq_of_beq e
          subst e
          simp only [Bool.and_eq_true, beq_iff_eq] at hc
          exact ⟨by rw [hc.1.1]; exact .head _, hc.2⟩
        · obtain ⟨a, b⟩ := ih (fun p hp => hn p (.tail _ hp)) h
          exact ⟨.tail _ a, b⟩
      · simp only [hc, Bool.false_eq_true, if_false, List.lookup_cons] at h
        split at h
        · cases h; exact absurd rfl (hn _ (.head _))
        · obtain ⟨a, b⟩ := ih (fun p hp => hn p (.tail _ hp)) h
          exact ⟨.tail _ a, b⟩
  exact key _ hn h
theorem relS_local {scope : Scope} {x : Str} (h : (relS scope sc).names.lookup x = some .local) : (x, NameKind.local) ∈ scope.names := by
  unfold relS at h
  simp only at h
  have key : ∀ (l : List (Str × NameKind)), (l.map fun (x, k) => if (k == NameKind.free && sc.kind == .function && sc.names.lookup x == some .cell) then (x, NameKind.cell) else (x, k)).lookup x = some .local → (x, NameKind.local) ∈ l := by
    intro l
    induction l with
    | nil => intro h; cases h
    | cons p l ih =>
      obtain ⟨y, k⟩ := p
      intro h
      rw [List.map_cons] at h
      by_cases hc : (k == NameKind.free && sc.kind == .function && sc.names.lookup y == some .cell) = true
      · simp only [hc, if_true, List.lookup_cons] at h
        split at h
        · cases h
        · exact .tail _ (ih h)
      · simp only [hc, Bool.false_eq_true, if_false, List.lookup_cons] at h
        split at h
        · rename_i e
          have e := eq_of_beq e
          cases h
          rw [e]; exact .head _
        · exact .tail _ (ih h)
  exact key _ h
/-- the variables as a comprehension's block sees them -/
noncomputable def inComp (locs : List String) (ρ : Rho) : Rho := fun x => if x ∈ locs then none else (ρ x).bind fun vv => (rdVar vv).map fun v => .val (V.fix v.x .s)
section
variable {s₀ s : Shared} {X : List Addr} {env : Env} {C : List Addr} {ρ : Rho} {O : List (String × List Addr)}
/-- a local name is bound, in any frame -/
theorem InF.setL (I : InF prog w hb s₀ X env C ρ O s) {x : String} {u : Value} {v : VV} {m : Str → Option Value} {h' : Heap} {tk : Nat} (hk : env.kindOf (Str.ofString x) = some .local)
    (hmv : ∀ y vv, ρ y = some vv → env.kindOf (Str.ofString y) = some .local → ∃ u, m (Str.ofString y) = some u ∧ RepVV prog w s₀.heap (WW env C O) O s.heap y u vv)
    (hn : h'.Ns env.locals (fun y => if y = Str.ofString x then some u else m y)) (hs : Heap.SameBut env.locals s.heap h') (r : RepVV prog w s₀.heap (WW env C O) O s.heap x u v) :
    InF prog w hb s₀ X env C (ρ.set x v) O { s with heap := h', toks := tk } := by
  have K : Wrote [env.locals] (WW env C O) s.heap h' := by
    refine ⟨fun a ha => by rw [List.mem_singleton.mp ha]; exact .head _, fun b o e hb' => (hs.2 b (by simpa using hb')).trans e, fun a ha => ?_⟩
    rw [List.mem_singleton.mp ha]
    obtain ⟨o, es, ep, ho, hd, _⟩ := hn
    refine ⟨o, ho, fun ⟨vs, k, hc⟩ => ?_⟩
    rw [hc] at hd; cases hd
  obtain ⟨w1, w2, w3, w4, w5⟩ := I.wrote K
  obtain ⟨h0, t0, e0⟩ := I.same
  refine ⟨⟨h', tk, by rw [e0]⟩, w1, w2, w3, w4, I.wfresh, I.wnodup, I.kind, I.glob, I.bult, I.clk, ⟨_, hn, fun y vv e1 e2 => ?_⟩, fun y vv e1 e2 => ?_⟩
  · have e1' : (if y = x then some v else ρ y) = some vv := e1
    by_cases hy : y = x
    · subst hy
      rw [if_pos rfl] at e1'
      cases e1'
      refine ⟨u, if_pos rfl, r.wrote w5 K.same fun sp hsp a ha => ?_⟩
      simpa using (own_off I.wnodup hsp ha).1
    · rw [if_neg hy] at e1'
      obtain ⟨u', a, b⟩ := hmv y vv e1' e2
      refine ⟨u', (if_neg fun q => hy (ofString_inj q)).trans a, b.wrote w5 K.same fun sp hsp a ha => ?_⟩
      simpa using (own_off I.wnodup hsp ha).1
  · have hy : y ≠ x := fun q => by rw [q, hk] at e2; cases e2
    have e1' : (if y = x then some v else ρ y) = some vv := e1
    rw [if_neg hy] at e1'
    obtain ⟨c, u', a, b, d⟩ := I.cell y vv e1' e2
    refine ⟨c, u', a, b.sameBut hs (fun q => ?_), d.wrote w5 K.same fun sp hsp a ha => ?_⟩
    · obtain ⟨o, ho, hd⟩ := b
      obtain ⟨m', ⟨oL, es, ep, hL, hdL, _⟩, _⟩ := I.ns
      rw [q, hL] at ho; cases ho
      rw [hdL] at hd; cases hd
    · simpa using (own_off I.wnodup hsp ha).1
theorem InF.storeL {A : Around} {E : Value → Shared → Prop} {Q : Unit → Shared → Prop} (I : InF prog w hb s₀ X env C ρ O s) {x : String} {u : Value} {v : VV} (hk : env.kindOf (Str.ofString x) = some .local) (r : RepVV prog w s₀.heap (WW env C O) O s.heap x u v)
    (hQ : ∀ h' tk, InF prog w hb s₀ X env C (ρ.set x v) O { s with heap := h', toks := tk } → Heap.SameBut env.locals s.heap h' → Q () { s with heap := h', toks := tk }) : wpAny (model prog w) A (storeName env (Str.ofString x) u) Q E s := by
  obtain ⟨m, hm, hv⟩ := I.ns
  exact wpAny_storeName_local hk hm (fun h' hn hs => hQ h' _ (I.setL hk hv hn hs r) hs) (by rw [I.kind]; rfl)
theorem InF.weaken (I : InF prog w hb s₀ X env C ρ O s) {ρ' : Rho} (h : ∀ x v, ρ' x = some v → ρ x = some v) : InF prog w hb s₀ X env C ρ' O s := by
  refine ⟨I.same, I.base, I.keep, I.alive, I.walive, I.wfresh, I.wnodup, I.kind, I.glob, I.bult, I.clk, ?_, fun x vv e1 e2 => I.cell x vv (h x vv e1) e2⟩
  obtain ⟨m, hm, hv⟩ := I.ns
  exact ⟨m, hm, fun x vv e1 e2 => hv x vv (h x vv e1) e2⟩
end
/-- a comprehension's target: local names -/
noncomputable def TgL (prog : Program) (w : World) (hb : Heap) (sc : Scope) (locs : List String) (tgt : Expr) (m : V → Rho → Option Rho) : Prop :=
  (∀ v ρ ρ', m v ρ = some ρ' → ∀ x, x ∉ locs → ρ' x = ρ x) ∧
  ∀ ⦃A : Around⦄ ⦃env : Env⦄ ⦃s₀ : Shared⦄ ⦃X C : List Addr⦄ ⦃ρ ρ' : Rho⦄ ⦃O : List (String × List Addr)⦄ ⦃s : Shared⦄ ⦃u : Value⦄ ⦃v : V⦄ ⦃Q : Unit → Shared → Prop⦄ ⦃E : Value → Shared → Prop⦄,
    env.scope = sc → A.handled = none → InF prog w hb s₀ X env C ρ O s → Rep prog w s₀.heap (WW env C O) s.heap u v → m v ρ = some ρ' →
    (∀ h' tk, InF prog w hb s₀ X env C ρ' O { s with heap := h', toks := tk } → (∀ b o, b ≠ env.locals → s.heap.get? b = some o → h'.get? b = some o) → Q () { s with heap := h', toks := tk }) → wpAny (model prog w) A (PySem.assign tgt env u) Q E s
noncomputable def isLoc (sc : Scope) (x : String) : Bool := decide (sc.names.lookup (Str.ofString x) = some .local)
theorem TgL.name {x : String} {pos : Pos} {locs : List String} (hv : isLoc sc x = true) (hl : x ∈ locs) : TgL prog w hb sc locs (.Name (Str.ofString x) pos) (putR x) := by
  refine ⟨fun v ρ ρ' h y hy => ?_, ?_⟩
  · obtain ⟨_, rfl⟩ := putR_some h
    have hyx : y ≠ x := fun e => hy (by rw [e]; exact hl)
    exact if_neg hyx
  intro A env s₀ X C ρ ρ' O s u v Q E hs hA I r hm hQ
  obtain ⟨hf, rfl⟩ := putR_some hm
  have hk : env.kindOf (Str.ofString x) = some .local := by unfold Env.kindOf; rw [hs]; exact of_decide_eq_true hv
  exact wpAny_assign_Name (I.storeL (v := .val v) hk ⟨hf, r⟩ fun h' tk I' hsb => hQ h' tk I' fun b o hb' e => (hsb.2 b hb').trans e)
theorem assign_namesL {A : Around} {env : Env} {s₀ : Shared} {X C : List Addr} {O : List (String × List Addr)} {Q : Unit → Shared → Prop} {E : Value → Shared → Prop} (hs : env.scope = sc) :
    ∀ {xs : List String} {elts : List Expr} {us : List Value} {vs : List V} {ρ ρ' : Rho} {s : Shared}, (∀ x ∈ xs, isLoc sc x = true) → elts.length = xs.length → InF prog w hb s₀ X env C ρ O s → Reps prog w s₀.heap (WW env C O) s.heap us vs → putRs xs vs ρ = some ρ' →
    (∀ h' tk, InF prog w hb s₀ X env C ρ' O { s with heap := h', toks := tk } → (∀ b o, b ≠ env.locals → s.heap.get? b = some o → h'.get? b = some o) → Q () { s with heap := h', toks := tk }) →
    wpAny (model prog w) A (assignInOrder ((xs.zipWith (fun x e => (false, PySem.assign (.Name (Str.ofString x) e.pos) env)) elts).map (·.2)) us) Q E s
  | [], [], us, vs, ρ, ρ', s, _, _, I, r, hm, hQ => by
    cases vs with
    | nil => cases r; cases hm; exact wpAny_pure (hQ s.heap s.toks I fun _ _ _ e => e)
    | cons _ _ => simp [putRs] at hm
  | [], _ :: _, _, _, _, _, _, _, h, _, _, _, _ => by simp at h
  | _ :: _, [], _, _, _, _, _, _, h, _, _, _, _ => by simp at h
  | x :: xs, e :: elts, us, vs, ρ, ρ', s, hv, hl, I, r, hm, hQ => by
    cases r with
    | nil => simp [putRs] at hm
    | cons r1 r2 =>
      rename_i u v us vs
      have hfl := (putRs_len hm).2
      simp only [putRs] at hm
      obtain ⟨ρ₁, h1, h2⟩ := Option.bind_eq_some_iff.mp hm
      obtain ⟨hf, rfl⟩ := putR_some h1
      have hk : env.kindOf (Str.ofString x) = some .local := by unfold Env.kindOf; rw [hs]; exact of_decide_eq_true (hv x (.head _))
      refine wpAny_bind (wpAny_holding (wpAny_assign_Name (I.storeL (v := .val v) hk ⟨hf, r1⟩ fun h₁ tk₁ I₁ hsb => ?_)))
      have off : Off (WW env C O) s.heap h₁ := by
        intro b o eb hc
        refine (hsb.2 b fun q => ?_).trans eb
        rcases hc with hc | hc
        · exact hc (q ▸ .head _)
        · obtain ⟨o', e', nt⟩ := I.walive env.locals (.head _)
          rw [q, e'] at eb; cases eb; exact nt hc
      exact assign_namesL hs (fun y hy => hv y (.tail _ hy)) (by simpa using hl) I₁ (r2.off off fun v hv => hfl v (.tail _ hv)) h2 fun h' tk I' kp => hQ h' tk I' fun b o hb' e => kp b o hb' ((hsb.2 b hb').trans e)
theorem putRs_other : ∀ {xs : List String} {vs : List V} {ρ ρ' : Rho}, putRs xs vs ρ = some ρ' → ∀ y, y ∉ xs → ρ' y = ρ y
  | [], [], _, _, h, y, _ => by cases h; rfl
  | [], _ :: _, _, _, h, _, _ => by simp [putRs] at h
  | _ :: _, [], _, _, h, _, _ => by simp [putRs] at h
  | x :: xs, v :: vs, ρ, ρ', h, y, hy => by
    simp only [putRs] at h
    obtain ⟨ρ₁, h1, h2⟩ := Option.bind_eq_some_iff.mp h
    obtain ⟨_, rfl⟩ := putR_some h1
    rw [putRs_other h2 y fun q => hy (.tail _ q)]
    have hyx : y ≠ x := fun e => hy (by rw [e]; exact .head _)
    exact if_neg hyx
theorem TgL.tuple {xs : List String} {elts : List Expr} {k : Nat} {pos : Pos} {locs : List String} (hv : ∀ x ∈ xs, isLoc sc x = true) (hlc : ∀ x ∈ xs, x ∈ locs) (hlen : elts.length = xs.length)
    (he : ∀ env : Env, assignEach elts env = xs.zipWith (fun x e => (false, PySem.assign (.Name (Str.ofString x) e.pos) env)) elts := by intro _; rfl) :
    TgL prog w hb sc locs (.Tuple elts k pos) (fun v ρ => (tupOf v).bind fun vs => putRs xs vs ρ) := by
  refine ⟨fun v ρ ρ' h y hy => ?_, ?_⟩
  · obtain ⟨vs, _, h⟩ := Option.bind_eq_some_iff.mp h
    exact putRs_other h y fun q => hy (hlc y q)
  intro A env s₀ X C ρ ρ' O s u v Q E hs hA I r hm hQ
  obtain ⟨vs, hvs, hm⟩ := Option.bind_eq_some_iff.mp hm
  obtain ⟨vx, vf⟩ := v
  obtain ⟨as, ra, ca, oa⟩ := r
  unfold tupOf at hvs
  dsimp only at *
  split at hvs
  · rename_i ys
    cases hvs
    cases ra with
    | tuple a1 a2 =>
      rename_i us kk
      rw [wf_tuple] at ca
      have hl := a2.length
      have hrs : ∀ {us : List Value} {ys : List PyData} {as : List Addr}, RDs prog w s.heap us ys as → wfs ys = true → FlOk s₀.heap (WW env C O) vf as → Reps prog w s₀.heap (WW env C O) s.heap us (ys.map fun x => V.fix x vf) := by
        intro us
        induction us with
        | nil => intro ys as r _ _; cases r; exact .nil
        | cons u us ih =>
          intro ys as r c o
          cases r with
          | cons r1 r2 =>
            simp only [wfs, Bool.and_eq_true] at c
            exact .cons (Rep.fixed r1 c.1 (o.mono fun _ h => List.mem_append_left _ h)) (ih r2 c.2 (o.mono fun _ h => List.mem_append_right _ h))
      have reps := hrs a2 ca.2 oa
      clear hrs
      have hxl : xs.length = us.length := by
        rw [(putRs_len hm).1, reps.length]
      refine wpAny_assign_Tuple hA ⟨_, a1, rfl, _, rfl⟩ (by rw [he]; simp [hlen, hxl]) ?_ fun h' ext => ?_
      · rw [he, List.findIdx?_eq_none_iff]
        intro p hp
        obtain ⟨i, hi, rfl⟩ := List.mem_iff_getElem.mp hp
        simp
      have k' : Keeps s { s with heap := h' } := ⟨h', s.toks, rfl, fun b o e => ext b o (Nat.ne_of_lt (Heap.lt_size e)) e⟩
      have I' := I.grow k'
      have reps' := reps.grow (keeps_grow k')
      rw [he]
      exact assign_namesL hs hv hlen I' reps' hm fun h'' tk I'' kp => hQ h'' tk I'' fun b o hb' e => kp b o hb' (keeps_grow k' _ _ e)
  · cases hvs
end Mine

/-! text PF14 -/
set_option autoImplicit false
namespace Mine
open PySem PySem.Calls
variable {prog : Program} {w : World} {hb : Heap} {n : Nat} {sc : Scope}

/-! ## comprehensions: the loop -/
theorem codeAny_compLoop_any {A : Around} {R : Result → Shared → Prop} {s : Shared} {elt target iter : Expr} {ifs : List Expr} {scope : Scope} {pos : Pos} {it acc : Value} {env : Env} (I : Nat → Shared → Prop)
    (turn : ∀ n s, I n s → wpAny (model prog w) A (pyNext it) (fun r s₁ => match r with
      | none => R (.ok .next) s₁
      | some v => wpAny (model prog w) A (letOwnedTupleGo target it v) (fun _ s₁' => wpAny (model prog w) A (assign target env v) (fun _ s₂ =>
          wpAny (model prog w) A (forIn ifs true fun c r => if r = true then do let ok ← isTrue c env (eval c env); pure (ForInStep.yield ok) else pure (ForInStep.yield r)) (fun ok s₃ =>
            if ok = true then wpAny (model prog w) A (eval elt env) (fun x s₄ =>
              wpAny (model prog w) A (call (.builtin "list.append") [acc, x]) (fun _ s₅ => ∃ m, m < n ∧ I m s₅) (notedBy (model prog w) A env fun e s' => R (.error e) s') s₄) (notedBy (model prog w) A env fun e s' => R (.error e) s') s₃
            else ∃ m, m < n ∧ I m s₃) (notedBy (model prog w) A env fun e s' => R (.error e) s') s₂) (notedBy (model prog w) A env fun e s' => R (.error e) s') s₁') (notedBy (model prog w) A env fun e s' => R (.error e) s') s₁) (notedBy (model prog w) A env fun e s' => R (.error e) s') s)
    (n : Nat) (h : I n s) :
    codeAny (model prog w) A (.compLoop (.ListComp elt [⟨target, iter, ifs, 0⟩] scope pos) 0 it acc env) R s := by
  refine codeAny_loop rfl I (fun n s hI => ?_) n h
  show wpAny _ A ((compTurn (.ListComp elt [⟨target, iter, ifs, 0⟩] scope pos) 0 it acc env).onRaise (fun x => do noteFrame x env; theTreesLotGoes x)) _ _ s
  refine wpAny_noted ?_
  rw [compTurn_list]
  refine wpAny_bind (wpAny_standAt (wpAny_bind (wpAny_mono (turn n s hI) (fun r s₁ h₁ => ?_) fun _ _ h' => h')))
  cases r with
  | none => exact wpAny_pure h₁
  | some v =>
    refine wpAny_bind (wpAny_mono h₁ (fun _ s₁' h₁' => ?_) fun _ _ h' => h')
    refine wpAny_bind (wpAny_mono h₁' (fun _ s₂ h₂ => wpAny_bind (wpAny_mono h₂ (fun ok s₃ h₃ => ?_) fun _ _ h' => h')) fun _ _ h' => h')
    cases ok with
    | false => exact wpAny_pure ⟨rfl, h₃⟩
    | true =>
      exact wpAny_bind (wpAny_bind (wpAny_mono h₃ (fun x s₄ h₄ => wpAny_bind (wpAny_mono h₄ (fun _ s₅ h₅ => wpAny_pure (wpAny_pure ⟨rfl, h₅⟩)) fun _ _ h' => h')) fun _ _ h' => h'))
/-- the tests of a comprehension -/
noncomputable def Ifs (prog : Program) (w : World) (hb : Heap) (n : Nat) (sc : Scope) (cs : List Expr) (m : Rho → Option Bool) : Prop :=
  ∀ ⦃A : Around⦄ ⦃env : Env⦄ ⦃s₀ : Shared⦄ ⦃X C : List Addr⦄ ⦃ρ : Rho⦄ ⦃O : List (String × List Addr)⦄ ⦃s : Shared⦄ ⦃v : Bool⦄ ⦃Q : Bool → Shared → Prop⦄ ⦃E : Value → Shared → Prop⦄,
    env.scope = sc → RoomF A n → InF prog w hb s₀ X env C ρ O s → m ρ = some v → (∀ s', Keeps s s' → Q v s') →
    wpAny (model prog w) A (forIn cs true fun c r => if r = true then do let ok ← isTrue c env (eval c env); pure (ForInStep.yield ok) else pure (ForInStep.yield r)) Q E s
theorem Ifs.nil : Ifs prog w hb n sc [] (fun _ => some true) := by
  intro A env s₀ X C ρ O s v Q E hs hA I hm hQ
  cases hm
  exact wpAny_tests_nil (hQ s (keeps_refl s))
theorem Ifs.one {c : Expr} {m : Rho → Option Bool} (h : Tr prog w hb n sc c m) : Ifs prog w hb n sc [c] m := by
  intro A env s₀ X C ρ O s v Q E hs hA I hm hQ
  exact wpAny_tests_one (h hs hA I hm hQ)
noncomputable def compD (bind : V → Rho → Option Rho) (test : Rho → Option Bool) (elt : Rho → Option V) (ρ : Rho) : List PyData → Option (List PyData)
  | [] => some []
  | x :: xs => (bind (V.fix x .s) ρ).bind fun ρ₁ => (test ρ₁).bind fun c => if c then (elt ρ₁).bind fun v => if v.fl = .d then (compD bind test elt ρ xs).map (v.x :: ·) else none else compD bind test elt ρ xs
/-- a frame all whose known variables are values: a write at one of its other addresses -/
theorem InF.writeO {s₀ s : Shared} {X : List Addr} {env : Env} {C : List Addr} {ρ : Rho} {O : List (String × List Addr)} (I : InF prog w hb s₀ X env C ρ O s) (hval : ∀ x vv, ρ x = some vv → ∃ v, vv = .val v) {z : Addr} {h' : Heap} {tk : Nat} (hz : z ∈ WW env C O) (hzL : z ≠ env.locals)
    (hzo : ∃ vs k, s.heap.get? z = some (lstObj vs k)) (hs : Heap.SameBut z s.heap h') (ht : ∃ ob, h'.get? z = some ob ∧ ¬ Tup ob) : InF prog w hb s₀ X env C ρ O { s with heap := h', toks := tk } := by
  have K : Wrote [z] (WW env C O) s.heap h' :=
    ⟨fun b hb' => by rw [List.mem_singleton.mp hb']; exact hz, fun b ob e hb' => (hs.2 b (by simpa using hb')).trans e, fun b hb' => by rw [List.mem_singleton.mp hb']; exact ht⟩
  obtain ⟨w1, w2, w3, w4, w5⟩ := I.wrote K
  obtain ⟨h0, t0, e0⟩ := I.same
  refine ⟨⟨h', tk, by rw [e0]⟩, w1, w2, w3, w4, I.wfresh, I.wnodup, I.kind, I.glob, I.bult, I.clk, ?_, fun y vv e1 e2 => ?_⟩
  · obtain ⟨m, hm, hv⟩ := I.ns
    refine ⟨m, hm.sameBut hs (Ne.symm hzL), fun y vv e1 e2 => ?_⟩
    obtain ⟨u, a, b⟩ := hv y vv e1 e2
    obtain ⟨v, rfl⟩ := hval y vv e1
    exact ⟨u, a, b.1, b.2.off w5 b.1⟩
  · obtain ⟨c, u, a, b, d⟩ := I.cell y vv e1 e2
    obtain ⟨v, rfl⟩ := hval y vv e1
    refine ⟨c, u, a, b.sameBut hs (fun q => ?_), d.1, d.2.off w5 d.1⟩
    obtain ⟨o, ho, hd⟩ := b
    obtain ⟨vs, k, e⟩ := hzo
    rw [q, e] at ho; cases ho; cases hd
theorem inComp_val {locs : List String} {ρ : Rho} {x : String} {vv : VV} (h : inComp locs ρ x = some vv) : x ∉ locs ∧ ∃ v0 v, ρ x = some v0 ∧ rdVar v0 = some v ∧ vv = .val (V.fix v.x .s) := by
  unfold inComp at h
  split at h
  · cases h
  · rename_i hx
    obtain ⟨v0, h1, h2⟩ := Option.bind_eq_some_iff.mp h
    obtain ⟨v, h3, h4⟩ := Option.map_eq_some_iff.mp h2
    exact ⟨hx, v0, v, h1, h3, h4.symm⟩
theorem fix_ds (x : PyData) : (V.fix x .s).fl = .d ∨ (V.fix x .s).fl = .s := by
  unfold V.fix; split
  · exact .inl rfl
  · exact .inr rfl
end Mine

/-! text PF15 -/
set_option autoImplicit false
namespace Mine
open PySem PySem.Calls
variable {prog : Program} {w : World} {hb : Heap} {n : Nat} {sc : Scope}

set_option maxHeartbeats 2000000 in
theorem comp_core {elt tgt iter : Expr} {ifs : List Expr} {scope : Scope} {pos : Pos} {locs : List String} {mi : Rho → Option (List PyData × Fl)} {bind : V → Rho → Option Rho} {mt : Rho → Option Bool} {me : Rho → Option V} (ok : CompOk scope sc locs)
    (hi : It prog w hb n sc tgt iter mi) (ht : TgL prog w hb (relS scope sc) locs tgt bind) (hif : Ifs prog w hb n (relS scope sc) ifs mt) (he : Ev prog w hb n (relS scope sc) elt me)
    {A : Around} {env : Env} {s₀ : Shared} {X C : List Addr} {ρ : Rho} {O : List (String × List Addr)} {s : Shared} {E : Value → Shared → Prop} {xs : List PyData} {f : Fl} {ys : List PyData} {R : Value → Addr → Result → Shared → Prop}
    (hs : env.scope = sc) (hA : RoomF A n) (I : InF prog w hb s₀ X env C ρ O s) (hv : mi ρ = some (xs, f)) (hd : compD bind mt me (inComp locs ρ) xs = some ys)
    (hR : ∀ D C' s' cs m, Keeps s s' → RD prog w s'.heap (.ref D) (.list ys) (D :: cs) → wf (.list ys) = true → (∀ a ∈ D :: cs, s.heap.get? a = none ∧ a ≠ C') → s.heap.get? C' = none → s'.heap.Ns C' m → R (.ref D) C' (.ok .next) s') :
    wpAny (model prog w) A (eval iter env) (fun x s₁ => wpAny (model prog w) A (pyIter x) (fun it s₂ => wpAny (model prog w) A (newList []) (fun acc s₃ =>
      wpAny (model prog w) A (newFunctionEnv scope env.globals (clos env.cells scope.names []) [] env.qual none .none (some env)) (fun cenv s₄ =>
        codeAny (model prog w) A (.compStart (.ListComp elt [⟨tgt, iter, ifs, 0⟩] scope pos) 0 it acc { cenv with scope := relabel scope env }) (R acc cenv.locals) s₄) E s₃) E s₂) E s₁) E s := by
  refine hi.2 hs hA I hv fun J F wr S s₂ k₂ T hS hF hwf hlen hwr => ?_
  dsimp only at T hF hwf hlen
  refine wpAny_newObj_type (wpAny_newFunctionEnv ok.nocell (by intro y hy; simp at hy) (fun h₁ hns₁ hsb₁ => ?_) ok.kind)
  dsimp only at hns₁ hsb₁ ⊢
  -- the addresses
  have hDs : s.heap.get? s₂.heap.objs.size = none := by
    cases e : s.heap.get? s₂.heap.objs.size with
    | none => rfl
    | some o => exact absurd (Heap.lt_size (keeps_grow k₂ _ _ e)) (Nat.lt_irrefl _)
  generalize hH : s₂.heap.push { cls := .type "list", dict := none, data := .seq ([] : List Value).toArray } = H at hns₁ hsb₁ ⊢
  have hHs : H.objs.size = s₂.heap.objs.size + 1 := by rw [← hH, Heap.size_push]
  have hCs : s.heap.get? H.objs.size = none := by
    cases e : s.heap.get? H.objs.size with
    | none => rfl
    | some o =>
      have := Heap.lt_size (keeps_grow k₂ _ _ e)
      rw [hHs] at this
      exact absurd this (Nat.not_lt.mpr (Nat.le_succ _))
  have hDC : s₂.heap.objs.size ≠ H.objs.size := by rw [hHs]; exact Nat.ne_of_lt (Nat.lt_succ_self _)
  have old : ∀ b o, s₂.heap.get? b = some o → h₁.get? b = some o := by
    intro b o e
    have hb1 := Heap.lt_size e
    refine hsb₁.extBut b o ?_ (Heap.get?_push_of_some _ (hH ▸ Heap.get?_push_of_some _ e))
    rw [hHs]; exact Nat.ne_of_lt (Nat.lt_succ_of_lt hb1)
  have below : ∀ b o, s₂.heap.get? b = some o → b ≠ H.objs.size ∧ b ≠ s₂.heap.objs.size := by
    intro b o e
    have hb1 := Heap.lt_size e
    exact ⟨by rw [hHs]; exact Nat.ne_of_lt (Nat.lt_succ_of_lt hb1), Nat.ne_of_lt hb1⟩
  have hD₁ : h₁.get? s₂.heap.objs.size = some (lstObj [] 0) := hsb₁.extBut _ _ hDC (Heap.get?_push_of_some _ (hH ▸ Heap.get?_push_size _ rfl))
  generalize hD : s₂.heap.objs.size = D at *
  generalize hC' : H.objs.size = C' at *
  have hbD : ∀ a, s.heap.get? a = none → hb.get? a = none := by
    intro a ha
    cases e : hb.get? a with
    | none => rfl
    | some o => rw [I.base.grow _ _ e] at ha; cases ha
  have kall : ∀ b o, s.heap.get? b = some o → h₁.get? b = some o := fun b o e => old b o (keeps_grow k₂ _ _ e)
  obtain ⟨hx0, tx0, ex0⟩ := k₂
  -- the block's own frame
  let cenv : Env := { newEnv scope C' env.globals (clos env.cells scope.names []) env.qual none .none (some env) 0 with scope := relabel scope env }
  have ceq : ∀ b, { newEnv scope C' env.globals (clos env.cells scope.names []) env.qual none .none (some env) b with scope := relabel scope env } = cenv := fun _ => rfl
  have csc : cenv.scope = relS scope sc := by show relabel scope env = _; rw [relabel_eq, hs]
  have cW : WW cenv [] [(".acc", [D])] = [C', D] := rfl
  have cI : ∀ tk, InF prog w hb s [] cenv [] (inComp locs ρ) [(".acc", [D])] { s₂ with heap := h₁, toks := tk } := by
    intro tk
    refine ⟨⟨h₁, tk, by rw [ex0.1]⟩, I.base.trans kall, fun b o e _ => kall b o e, fun b o e => ⟨o, kall b o e⟩, ?_, ?_, ?_, ?_, ?_, ?_, ?_, ?_, ?_⟩
    · rw [cW]
      intro a ha
      rcases List.mem_cons.mp ha with rfl | ha
      · obtain ⟨o, es, ep, ho, hd', _⟩ := hns₁
        exact ⟨o, ho, fun ⟨_, _, q⟩ => by rw [q] at hd'; cases hd'⟩
      · rw [List.mem_singleton.mp ha]; exact ⟨_, hD₁, not_tup_lst _ _⟩
    · rw [cW]
      intro a ha
      rcases List.mem_cons.mp ha with rfl | ha
      · exact ⟨hbD _ hCs, fun _ => hCs⟩
      · rw [List.mem_singleton.mp ha]; exact ⟨hbD _ hDs, fun _ => hDs⟩
    · rw [cW]; simp [Ne.symm hDC]
    · rw [csc]; exact ok.kind
    · exact I.glob
    · exact I.bult
    · intro x e
      have e' : (relS scope sc).names.lookup x = some .cell := by rw [← csc]; exact e
      obtain ⟨q1, q2⟩ := relS_cell ok.nocell e'
      obtain ⟨c, hc⟩ := I.clk x (by unfold Env.kindOf; rw [hs]; exact q2)
      exact ⟨c, clos_lookup hc _ _ (.inl rfl) (.inl q1)⟩
    · refine ⟨_, hns₁, fun x vv e1 e2 => ?_⟩
      have e' : (relS scope sc).names.lookup (Str.ofString x) = some .local := by rw [← csc]; exact e2
      have hx := (ok.locs _ (relS_local e') rfl).2
      obtain ⟨y, hy, q⟩ := List.mem_map.mp hx
      rw [ofString_inj q] at hy
      exact absurd hy (inComp_val e1).1
    · intro x vv e1 e2
      have e' : (relS scope sc).names.lookup (Str.ofString x) = some .cell := by rw [← csc]; exact e2
      obtain ⟨q1, q2⟩ := relS_cell ok.nocell e'
      obtain ⟨_, v0, v, r1, r2, rfl⟩ := inComp_val e1
      obtain ⟨c, u, hc, hu, rep⟩ := I.cell x v0 r1 (by unfold Env.kindOf; rw [hs]; exact q2)
      refine ⟨c, u, clos_lookup hc _ _ (.inl rfl) (.inl q1), isCell_grow hu kall, fix_ds _, ?_⟩
      obtain ⟨as, rd, cw, _⟩ := rep.rd r2
      refine Rep.fixed (rd.grow kall) cw fun a ha => ?_
      rw [cW]
      obtain ⟨o, e⟩ := rd.alive a ha
      simp only [List.mem_cons, List.not_mem_nil, or_false, not_or]
      exact ⟨(fun q => by rw [q, hCs] at e; cases e), (fun q => by rw [q, hDs] at e; cases e)⟩
  have hval : ∀ x vv, inComp locs ρ x = some vv → ∃ v, vv = .val v := fun x vv e => let ⟨_, _, v, _, _, q⟩ := inComp_val e; ⟨_, q⟩
  have wrOk : ∀ b ∈ wr, hb.get? b = none ∧ s.heap.get? b = none ∧ b ∉ WW cenv [] [(".acc", [D])] := by
    intro b hb'
    refine ⟨hbD b (hwr b hb'), hwr b hb', ?_⟩
    rw [cW]
    obtain ⟨o, fs, e, _⟩ := T.inert 0 _ hS b hb'
    obtain ⟨q1, q2⟩ := below b o e
    simp [q1, q2]
  have FOk : ∀ a ∈ F, a ∉ WW cenv [] [(".acc", [D])] := by
    intro a ha
    rw [cW]
    obtain ⟨o, e⟩ := T.alive 0 _ hS a ha
    obtain ⟨q1, q2⟩ := below a o e
    simp [q1, q2]
  have wr' : ∀ b ∈ wr, b ∉ WW cenv [] [(".acc", [D])] := fun b hb' => (wrOk b hb').2.2
  have hS₁ : S 0 h₁ := T.frame 0 _ _ (WW cenv [] [(".acc", [D])]) hS (fun b o e _ => old b o e) FOk wr'
  have loop : ∀ tk, codeAny (model prog w) A (.compLoop (.ListComp elt [⟨tgt, iter, ifs, 0⟩] scope pos) 0 (.ref J) (.ref D) cenv) (R (.ref D) C') { s₂ with heap := h₁, toks := tk } := by
    intro tk₀
    refine codeAny_compLoop_any (fun k s₅ => ∃ i us ys' rest cs kk, k = xs.length + 1 - i ∧ i ≤ xs.length ∧ InF prog w hb s [] cenv [] (inComp locs ρ) [(".acc", [D])] s₅ ∧ s₅.heap.get? D = some (lstObj us kk) ∧ RDs prog w s₅.heap us ys' cs ∧
        FlOk s.heap [C', D] .d cs ∧ wfs ys' = true ∧ ys'.length ≤ i ∧ S i s₅.heap ∧ compD bind mt me (inComp locs ρ) (xs.drop i) = some rest ∧ ys = ys' ++ rest) ?_ (xs.length + 1)
      ⟨0, [], [], ys, [], 0, by omega, by omega, cI tk₀, hD₁, .nil, FlOk.nil, rfl, by simp, hS₁, by simpa using hd, rfl⟩
    rintro k s₅ ⟨i, us, ys', rest, cs, kk, hL⟩
    have hk := hL.1
    subst hk
    have hil := hL.2.1
    have I₅ := hL.2.2.1
    have hD₅ := hL.2.2.2.1
    have rd₅ := hL.2.2.2.2.1
    have fo₅ := hL.2.2.2.2.2.1
    have wf₅ := hL.2.2.2.2.2.2.1
    have len₅ := hL.2.2.2.2.2.2.2.1
    have hS₅ := hL.2.2.2.2.2.2.2.2.1
    have hm₅ := hL.2.2.2.2.2.2.2.2.2.1
    have hys := hL.2.2.2.2.2.2.2.2.2.2
    clear hL
    by_cases hlt : i < xs.length
    · have hx : xs[i]? = some xs[i] := List.getElem?_eq_getElem hlt
      rw [List.drop_eq_getElem_cons hlt] at hm₅
      simp only [compD] at hm₅
      obtain ⟨ρ₁, hb₁, hm₆⟩ := Option.bind_eq_some_iff.mp hm₅
      obtain ⟨c, hc, hm₇⟩ := Option.bind_eq_some_iff.mp hm₆
      refine wpAny_mono (T.turn i _ s₅ ?Q (notedBy (model prog w) A cenv fun e s' => R (.ref D) C' (.error e) s') hx hS₅ ?k) ?h fun _ _ e => e
      case h =>
        intro rr s₆ h₆
        cases rr with
        | none => exact h₆.elim
        | some v => exact h₆
      case k =>
        intro v as h' tk rd has hS₆ kp
        have I₆ := I₅.iter (tk := tk) (T.inert i _ hS₅) wrOk kp
        have K₆ : Inert s₅.heap h' := Inert.of (T.inert i _ hS₅) kp
        have hD₆ : h'.get? D = some (lstObj us kk) := K₆ _ _ hD₅ fun _ q => by cases q
        have rd₆ := rd₅.inert K₆
        have rep : Rep prog w s.heap (WW cenv [] [(".acc", [D])]) h' v (V.fix xs[i] .s) := Rep.fixed rd ((wfs_iff _).mp hwf _ (List.getElem_mem _)) fun a ha => FOk a (has a ha)
        refine ht.2 csc hA.handled I₆ rep hb₁ fun h₇ tk₇ I₇ kp₇ => ?_
        have off₇ : Off (WW cenv [] [(".acc", [D])]) h' h₇ := by
          intro b o e hc'
          refine kp₇ b o (fun q => ?_) e
          rcases hc' with hc' | hc'
          · exact hc' (q ▸ .head _)
          · obtain ⟨o', e', nt⟩ := I₆.walive cenv.locals (.head _)
            rw [q] at e
            rw [e] at e'; cases e'; exact nt hc'
        have hS₇ := T.frame _ _ _ _ hS₆ off₇ FOk wr'
        have hD₇ : h₇.get? D = some (lstObj us kk) := kp₇ _ _ hDC hD₆
        have fo₅' : ∀ a ∈ cs, a ∉ WW cenv [] [(".acc", [D])] := fun a ha => by rw [cW]; exact (fo₅ a ha).2
        have rd₇ := rd₆.off off₇ fo₅'
        refine hif csc hA I₇ hc fun s₈ k₈ => ?_
        have I₈ := I₇.grow k₈
        have back : ∀ {s₉ : Shared}, InF prog w hb s [] cenv [] ρ₁ [(".acc", [D])] s₉ → InF prog w hb s [] cenv [] (inComp locs ρ) [(".acc", [D])] s₉ := fun J => J.weaken fun x vv e => by
          rw [ht.1 _ _ _ hb₁ x (inComp_val e).1]; exact e
        have hS₈ := T.frame _ _ _ (WW cenv [] [(".acc", [D])]) hS₇ (Off.of_grow (keeps_grow k₈)) FOk wr'
        have hD₈ := keeps_grow k₈ _ _ hD₇
        have rd₈ := rd₇.grow (keeps_grow k₈)
        cases c with
        | false =>
          simp only [Bool.false_eq_true, if_false] at hm₇ ⊢
          exact ⟨xs.length + 1 - (i + 1), by omega, i + 1, us, ys', rest, cs, kk, rfl, hlt, back I₈, hD₈, rd₈, fo₅, wf₅, by omega, hS₈, hm₇, hys⟩
        | true =>
          simp only [if_true] at hm₇ ⊢
          obtain ⟨ev, hev, hm₈⟩ := Option.bind_eq_some_iff.mp hm₇
          split at hm₈
          · rename_i hfl
            obtain ⟨rest', hr', rfl⟩ := Option.map_eq_some_iff.mp hm₈
            refine he csc hA I₈ hev fun u s₉ k₉ r₉ => ?_
            obtain ⟨bs, rdu, cwu, fou⟩ := r₉
            rw [hfl, cW] at fou
            have hul := rd₅.length
            have hD₉ := keeps_grow k₉ _ _ hD₈
            refine wpAny_list_append_plain (items := us.toArray) ⟨kk, hD₉⟩ (fun h₁₀ pl sb => ?_) (by simp; omega)
            obtain ⟨k', hD₁₀⟩ := pl
            have hD₁₀' : h₁₀.get? D = some (lstObj (us ++ [u]) k') := by rw [hD₁₀]; simp
            have I₁₀ := (back (I₈.grow k₉)).writeO (tk := s₉.toks) hval (z := D) (h' := h₁₀) (by rw [cW]; simp) hDC ⟨_, _, hD₉⟩ sb ⟨_, hD₁₀', not_tup_lst _ _⟩
            have off₁₀ : Off (WW cenv [] [(".acc", [D])]) s₉.heap h₁₀ := by
              intro b o e hc'
              refine (sb.2 b fun q => ?_).trans e
              rcases hc' with hc' | hc'
              · exact hc' (by rw [cW, q]; simp)
              · rw [q, hD₉] at e; cases e; exact not_tup_lst _ _ hc'
            refine ⟨xs.length + 1 - (i + 1), by omega, i + 1, us ++ [u], ys' ++ [ev.x], rest', cs ++ (bs ++ []), k', rfl, hlt, I₁₀, hD₁₀', ?_, ?_, ?_, ?_, ?_, hr', by rw [hys]; simp⟩
            · exact ((rd₈.grow (keeps_grow k₉)).off off₁₀ fo₅').append (.cons (rdu.off off₁₀ fun a ha => by rw [cW]; exact (fou a ha).2) .nil)
            · rw [List.append_nil]; exact FlOk.append fo₅ fou
            · rw [wfs_append, wf₅]; simp [wfs, cwu]
            · simp; omega
            · exact T.frame _ _ _ _ (T.frame _ _ _ (WW cenv [] [(".acc", [D])]) hS₈ (Off.of_grow (keeps_grow k₉)) FOk wr') off₁₀ FOk wr'
          · cases hm₈
    · have hi' : i = xs.length := by omega
      subst hi'
      simp only [List.drop_length, compD] at hm₅
      cases hm₅
      refine T.done s₅ _ _ hS₅ fun h' tk kp => ?_
      have I₆ := I₅.iter (tk := tk) (T.inert _ _ hS₅) wrOk kp
      have K₆ : Inert s₅.heap h' := Inert.of (T.inert _ _ hS₅) kp
      have hD₆ : h'.get? D = some (lstObj us kk) := K₆ _ _ hD₅ fun _ q => by cases q
      obtain ⟨m, hm, _⟩ := I₆.ns
      obtain ⟨h'', tk'', e''⟩ := I₆.same
      rw [List.append_nil] at hys
      subst hys
      refine hR D C' _ cs m ⟨h'', tk'', e'', fun b o e => ?_⟩ (.list hD₆ (rd₅.inert K₆)) (wf_list.mpr ⟨by omega, wf₅⟩) (fun a ha => ?_) hCs hm
      · have := I₆.keep b o e (by simp)
        rw [e''] at this; exact this
      · rcases List.mem_cons.mp ha with rfl | ha
        · exact ⟨hDs, hDC⟩
        · obtain ⟨q1, q2⟩ := fo₅ a ha
          exact ⟨q1, fun q => q2 (q ▸ .head _)⟩
  exact codeAny_compStart_list (loop _) (T.self 0 _ _ _ hS₁ (loop _))
end Mine

/-! text PF16 -/
set_option autoImplicit false
namespace Mine
open PySem PySem.Calls
variable {prog : Program} {w : World} {hb : Heap} {n : Nat} {sc : Scope}

noncomputable def compV (mi : Rho → Option (List PyData × Fl)) (locs : List String) (bind : V → Rho → Option Rho) (mt : Rho → Option Bool) (me : Rho → Option V) (ρ : Rho) : Option (List PyData) :=
  (mi ρ).bind fun v => compD bind mt me (inComp locs ρ) v.1
theorem Ev.comp {elt tgt iter : Expr} {ifs : List Expr} {scope : Scope} {pos : Pos} {locs : List String} {mi : Rho → Option (List PyData × Fl)} {bind : V → Rho → Option Rho} {mt : Rho → Option Bool} {me : Rho → Option V} (ok : compOk scope sc locs = true)
    (hi : It prog w hb n sc tgt iter mi) (ht : TgL prog w hb (relS scope sc) locs tgt bind) (hif : Ifs prog w hb n (relS scope sc) ifs mt) (he : Ev prog w hb n (relS scope sc) elt me) :
    Ev prog w hb n sc (.ListComp elt [⟨tgt, iter, ifs, 0⟩] scope pos) (fun ρ => (compV mi locs bind mt me ρ).map fun ys => ⟨.list ys, .d⟩) := by
  intro A env s₀ X C ρ O s v Q E hs hA I hm hQ
  obtain ⟨ys, hys, rfl⟩ := Option.map_eq_some_iff.mp hm
  obtain ⟨⟨xs, f⟩, hv, hd⟩ := Option.bind_eq_some_iff.mp hys
  have OK := CompOk.of ok
  have hcl : ∀ p ∈ scope.names, p.2 = .free → ∃ c, env.cells.lookup p.1 = some c := fun p hp e => I.clk p.1 (by unfold Env.kindOf; rw [hs]; exact OK.free p hp e)
  show wpAny _ _ (comprehension (.ListComp elt [⟨tgt, iter, ifs, 0⟩] scope pos) scope env (firstIterPos [⟨tgt, iter, ifs, 0⟩] pos) (newList []) false (eval iter env)) _ _ s
  refine wpAny_comprehension_free (g := ⟨tgt, iter, ifs, 0⟩) (gs := []) rfl (hi.1 env) (closureFor_clos hcl) OK.kind (fun x hx e => (OK.locs x hx e).1) ?_
  refine comp_core OK hi ht hif he hs hA I hv hd fun D C' s' cs m k rd cw fr hC hn => ?_
  refine ⟨m, hn, fun h' hsb => ?_⟩
  have k' : Keeps s { s' with heap := h' } := by
    obtain ⟨h1, t1, e1, g1⟩ := k
    subst e1
    exact ⟨h', t1, rfl, fun b o e => (hsb.2 b fun q => by rw [q, hC] at e; cases e).trans (g1 b o e)⟩
  refine hQ _ _ k' ⟨D :: cs, rd.off (W := [C']) (fun b o e hc => ?_) (fun a ha => by simpa using (fr a ha).2), cw, fun a ha => I.fresh (fr a ha).1⟩
  refine (hsb.2 b fun q => ?_).trans e
  obtain ⟨o', es, ep, ho', hd', _⟩ := hn
  rcases hc with hc | hc
  · exact hc (by simp [q])
  · rw [q, ho'] at e; cases e
    obtain ⟨_, _, z⟩ := hc
    rw [z] at hd'; cases hd'

/-! ## a name is given a comprehension's list -/
section
variable {s₀ s : Shared} {X : List Addr} {env : Env} {C : List Addr} {ρ : Rho} {O : List (String × List Addr)}
/-- a local name is bound, the heap grown besides -/
theorem InS.setG (I : InS prog w hb s₀ X env C ρ O s) {x : String} {u : Value} {v : VV} {m : Str → Option Value} {h' : Heap} {tk : Nat} (hk : env.kindOf (Str.ofString x) = some .local)
    (hmv : ∀ y vv, ρ y = some vv → env.kindOf (Str.ofString y) = some .local → ∃ u, m (Str.ofString y) = some u ∧ RepVV prog w s₀.heap (WW env C O) O s.heap y u vv)
    (hn : h'.Ns env.locals (fun y => if y = Str.ofString x then some u else m y)) (hs : ∀ b o, b ≠ env.locals → s.heap.get? b = some o → h'.get? b = some o) (r : RepVV prog w s₀.heap (WW env C O) O h' x u v) :
    InS prog w hb s₀ X env C (ρ.set x v) O { s with heap := h', toks := tk } := by
  have K : Wrote [env.locals] (WW env C O) s.heap h' := by
    refine ⟨fun a ha => by rw [List.mem_singleton.mp ha]; exact .head _, fun b o e hb' => hs b o (by simpa using hb') e, fun a ha => ?_⟩
    rw [List.mem_singleton.mp ha]
    obtain ⟨o, es, ep, ho, hd, _⟩ := hn
    refine ⟨o, ho, fun ⟨vs, k, hc⟩ => ?_⟩
    rw [hc] at hd; cases hd
  obtain ⟨w1, w2, w3, w4, w5⟩ := I.toInF.wrote K
  obtain ⟨h0, t0, e0⟩ := I.same
  have hne : ∀ c ∈ C, c ≠ env.locals := fun c hc e => by
    have := I.wnodup
    unfold WW at this
    rw [List.nodup_cons] at this
    exact this.1 (e ▸ List.mem_append_left _ hc)
  refine ⟨⟨⟨h', tk, by rw [e0]⟩, w1, w2, w3, w4, I.wfresh, I.wnodup, I.kind, I.glob, I.bult, I.clk, ⟨_, hn, fun y vv e1 e2 => ?_⟩, fun y vv e1 e2 => ?_⟩, I.fc, I.finj, fun z c hc => ?_⟩
  · have e1' : (if y = x then some v else ρ y) = some vv := e1
    by_cases hy : y = x
    · subst hy
      rw [if_pos rfl] at e1'
      cases e1'
      exact ⟨u, if_pos rfl, r⟩
    · rw [if_neg hy] at e1'
      obtain ⟨u', a, b⟩ := hmv y vv e1' e2
      refine ⟨u', (if_neg fun q => hy (ofString_inj q)).trans a, b.wrote w5 K.same fun sp hsp a ha => ?_⟩
      simpa using (own_off I.wnodup hsp ha).1
  · have hy : y ≠ x := fun q => by rw [q, hk] at e2; cases e2
    have e1' : (if y = x then some v else ρ y) = some vv := e1
    rw [if_neg hy] at e1'
    obtain ⟨c, u', a, ⟨o, ho, hd⟩, d⟩ := I.cell y vv e1' e2
    refine ⟨c, u', a, ⟨o, hs c o (hne c (I.cello _ c a).1) ho, hd⟩, d.wrote w5 K.same fun sp hsp a ha => ?_⟩
    simpa using (own_off I.wnodup hsp ha).1
  · obtain ⟨q, v, o, ho, hd⟩ := I.cello z c hc
    exact ⟨q, v, o, hs c o (hne c q) ho, hd⟩
end
noncomputable def swapB (sc scope : Scope) (x : String) (line vline : Nat) : Bool :=
  sc.names.lookup (Str.ofString x) == some .local && line == vline && !(scope.names.any fun p => p.1 == Str.ofString x && (p.2 == .local || p.2 == .cell))
theorem swaps_eq {env : Env} {elt : Expr} {gens : List Comprehension} {scope : Scope} {pos p : Pos} {x : String} {line : Nat} (hs : env.scope = sc) (hk : sc.kind = .function) :
    swapsWith (.ListComp elt gens scope pos) (some (.Name (Str.ofString x) p)) line env = pure (swapB sc scope x p.line pos.line) := by
  unfold swapsWith swapB Env.blockKind Env.kindOf
  simp only [hs, hk]
  rfl
theorem S1.assignComp {x : String} {elt tgt iter : Expr} {ifs : List Expr} {scope : Scope} {p cpos pos : Pos} {locs : List String} {mi : Rho → Option (List PyData × Fl)} {bind : V → Rho → Option Rho} {mt : Rho → Option Bool} {me : Rho → Option V} (ok : compOk scope sc locs = true)
    (hi : It prog w hb n sc tgt iter mi) (ht : TgL prog w hb (relS scope sc) locs tgt bind) (hif : Ifs prog w hb n (relS scope sc) ifs mt) (he : Ev prog w hb n (relS scope sc) elt me) (hsw : swapB sc scope x p.line cpos.line = true) :
    S1 prog w hb n sc (.Assign [.Name (Str.ofString x) p] (.ListComp elt [⟨tgt, iter, ifs, 0⟩] scope cpos) pos) (fun ρ => (compV mi locs bind mt me ρ).map fun ys => .next (ρ.set x (.val ⟨.list ys, .d⟩))) := by
  intro A env s₀ X C ρ O s r Q E hs hA I hm hQ
  obtain ⟨ys, hys, rfl⟩ := Option.map_eq_some_iff.mp hm
  obtain ⟨⟨xs, f⟩, hv, hd⟩ := Option.bind_eq_some_iff.mp hys
  have OK := CompOk.of ok
  have hk : env.kindOf (Str.ofString x) = some .local := by
    simp only [swapB, Bool.and_eq_true] at hsw
    unfold Env.kindOf; rw [hs]; exact eq_of_beq hsw.1.1
  have hcl : ∀ p ∈ scope.names, p.2 = .free → ∃ c, env.cells.lookup p.1 = some c := fun p hp e => I.clk p.1 (by unfold Env.kindOf; rw [hs]; exact OK.free p hp e)
  have hsw' : swapsWith (.ListComp elt [⟨tgt, iter, ifs, 0⟩] scope cpos) (some (.Name (Str.ofString x) p)) pos.line env = pure true := by
    rw [swaps_eq hs (by rw [← hs]; exact I.kind), hsw]
  rw [exec_Assign_Name_used _ _ _ _ hsw']
  refine wpAny_bind (wpAny_standAt (wpAny_bind ?_))
  show wpAny _ A (do let _ ← comprehension (.ListComp elt [⟨tgt, iter, ifs, 0⟩] scope cpos) scope env _ (newList []) false (eval iter env) (some (PySem.assign (.Name (Str.ofString x) p) env))) _ _ s
  refine wpAny_bind (wpAny_mono (wpAny_comprehension_free (use := some (PySem.assign (.Name (Str.ofString x) p) env)) (Q := fun _ s' => Q .next s') (g := ⟨tgt, iter, ifs, 0⟩) (gs := []) rfl (hi.1 env) (closureFor_clos hcl) OK.kind (fun x hx e => (OK.locs x hx e).1) ?_)
    (fun _ s' hq => wpAny_pure (wpAny_pure hq)) fun _ _ e => e)
  refine comp_core OK hi ht hif he hs hA I.toInF hv hd fun D C' s' cs m k rd cw fr hC hn => ?_
  show wpAny _ A (PySem.assign (.Name (Str.ofString x) p) env (.ref D)) _ _ s'
  obtain ⟨mL, hmL, hvL⟩ := I.ns
  have hLs : ∃ o, s.heap.get? env.locals = some o := by obtain ⟨o, _, _, ho, _⟩ := hmL; exact ⟨o, ho⟩
  have hLC : env.locals ≠ C' := fun q => by obtain ⟨o, ho⟩ := hLs; rw [q, hC] at ho; cases ho
  refine wpAny_assign_Name (wpAny_storeName_local hk (hmL.keeps (keeps_grow k)) (fun h₂ hn₂ hs₂ => ?_) (by rw [I.kind]; rfl))
  refine ⟨m, hn.sameBut hs₂ (Ne.symm hLC), fun h₃ hs₃ => ?_⟩
  have kk : ∀ b o, b ≠ env.locals → s.heap.get? b = some o → h₃.get? b = some o := fun b o hbL e =>
    (hs₃.2 b fun q => by rw [q, hC] at e; cases e).trans ((hs₂.2 b hbL).trans (keeps_grow k b o e))
  obtain ⟨h1, t1, e1, g1⟩ := k
  subst e1
  have fr' : ∀ a ∈ D :: cs, s₀.heap.get? a = none ∧ a ∉ WW env C O := fun a ha => I.toInF.fresh (fr a ha).1
  have rd₃ : RD prog w h₃ (.ref D) (.list ys) (D :: cs) := by
    refine rd.off (W := [env.locals, C']) (fun b o e hc => ?_) fun a ha => ?_
    · have hbL : b ≠ env.locals := fun q => by
        rcases hc with hc | hc
        · exact hc (by simp [q])
        · obtain ⟨o', es, ep, ho', hd', _⟩ := hmL
          obtain ⟨_, _, z⟩ := hc
          rw [q, g1 _ _ ho'] at e; cases e
          rw [z] at hd'; cases hd'
      have hbC : b ≠ C' := fun q => by
        rcases hc with hc | hc
        · exact hc (by simp [q])
        · obtain ⟨o', es, ep, ho', hd', _⟩ := hn
          obtain ⟨_, _, z⟩ := hc
          rw [q] at e
          rw [e] at ho'; cases ho'
          rw [z] at hd'; cases hd'
      exact (hs₃.2 b hbC).trans ((hs₂.2 b hbL).trans e)
    · have h1' := fr a ha
      have h2' := fr' a ha
      simp only [List.mem_cons, List.not_mem_nil, or_false, not_or]
      exact ⟨fun q => h2'.2 (q ▸ .head _), h1'.2⟩
  refine hQ O _ (I.setG (u := .ref D) (v := .val ⟨.list ys, .d⟩) hk hvL (hn₂.sameBut hs₃ hLC) kk ⟨.inl rfl, D :: cs, rd₃, cw, fr'⟩) ⟨fun b o e hb' => kk b o (fun q => hb' (q ▸ .head _)) e, fun _ h => .inl h⟩
end Mine

/-! text PF17 -/
set_option autoImplicit false
namespace Mine
open PySem PySem.Calls
variable {prog : Program} {w : World} {hb : Heap} {n : Nat} {sc : Scope}

/-! ## isinstance -/
noncomputable def tyName : PyData → String
  | .none => "NoneType"
  | .bool _ => "bool"
  | .int _ => "int"
  | .str _ => "str"
  | .list _ => "list"
  | .tuple _ => "tuple"
  | .dict _ => "dict"
noncomputable def isT (T : String) (x : PyData) : Bool := tyName x == T || (tyName x == "bool" && T == "int")
/-- what isinstance must know of a type -/
structure TyOk (T : String) : Prop where
  ty : typeOf (.type T) = pure (.type "type")
  sub : ∀ x : PyData, isSubtype (.type (tyName x)) (.type T) = pure (isT T x)
theorem TyOk.of {T : String} (ty : typeOf (.type T) = pure (.type "type")) (h1 : isSubtype (.type "NoneType") (.type T) = pure (isT T .none)) (h2 : isSubtype (.type "bool") (.type T) = pure (isT T (.bool true)))
    (h3 : isSubtype (.type "int") (.type T) = pure (isT T (.int 0))) (h4 : isSubtype (.type "str") (.type T) = pure (isT T (.str Str.empty))) (h5 : isSubtype (.type "list") (.type T) = pure (isT T (.list []))) (h6 : isSubtype (.type "tuple") (.type T) = pure (isT T (.tuple [])))
    (h7 : isSubtype (.type "dict") (.type T) = pure (isT T (.dict []))) : TyOk T := by
  refine ⟨ty, fun x => ?_⟩
  cases x <;> assumption
theorem tyOk_bool : TyOk "bool" := by
  refine .of ?_ ?_ ?_ ?_ ?_ ?_ ?_ ?_ <;> first | kernel_rfl | (rw [isSubtype_type]; kernel_rfl)
theorem tyOk_list : TyOk "list" := by
  refine .of ?_ ?_ ?_ ?_ ?_ ?_ ?_ ?_ <;> first | kernel_rfl | (rw [isSubtype_type]; kernel_rfl)
theorem tyOk_tuple : TyOk "tuple" := by
  refine .of ?_ ?_ ?_ ?_ ?_ ?_ ?_ ?_ <;> first | kernel_rfl | (rw [isSubtype_type]; kernel_rfl)
theorem isT_ne {T : String} {x : PyData} (h : isT T x = false) : (Value.type (tyName x) == Value.type T) = false := by
  cases e : (Value.type (tyName x) == Value.type T) with
  | false => rfl
  | true =>
    have := eq_of_beq e
    cases this
    simp [isT] at h
theorem isinst_ok {A : Around} {s : Shared} {E : Value → Shared → Prop} {Q : Value → Shared → Prop} {T : String} {x : PyData} {u : Value} {as : List Addr} (hT : TyOk T) (r : RD prog w s.heap u x as)
    (h : ∀ s', Keeps s s' → Q (.bool (isT T x)) s') : wpAny (model prog w) A (call (.builtin "isinstance") [u, .type T]) Q E s := by
  have hsub := hT.sub x
  cases e : isT T x with
  | true =>
    rw [e] at hsub h
    have hx : s.TypeIs u (tyName x) := by
      cases r with
      | none => rfl
      | bool => rfl
      | int => rfl
      | str => rfl
      | list a _ => exact ⟨_, a, rfl⟩
      | tuple a _ => exact ⟨_, a, rfl⟩
      | dict a _ _ _ => exact a.typeIs
    exact call_isinstance (isinstance_true hT.ty hsub) ⟨hx, h s (keeps_refl s)⟩
  | false =>
    rw [e] at hsub h
    have hne := isT_ne e
    have hq := h _ (keeps_toks s (s.toks + 1))
    cases r with
    | none => exact call_isinstance (isinstance_false_none hne hT.ty hsub) hq
    | bool b => exact call_isinstance (isinstance_false_bool hne hT.ty hsub) hq
    | int i t => exact call_isinstance (isinstance_false_int hne hT.ty hsub) hq
    | str x t => exact call_isinstance (isinstance_false_str hne hT.ty hsub) hq
    | list a _ => exact call_isinstance (isinstance_false_list hne hT.ty hsub) ⟨⟨_, a, rfl⟩, hq⟩
    | tuple a _ => exact call_isinstance (isinstance_false_tuple hne hT.ty hsub) ⟨⟨_, a, rfl⟩, hq⟩
    | dict a _ _ _ => exact call_isinstance (isinstance_false_dict hne hT.ty hsub) ⟨a.typeIs, hq⟩
theorem Ev.isinst {e : Expr} {T : String} {np tp pos : Pos} {m : Rho → Option V} (hT : TyOk T) (hx : isGlob sc "isinstance" = true) (hg : GName hb "isinstance" (.builtin "isinstance")) (hx' : isGlob sc T = true) (hg' : GName hb T (.type T)) (h : Ev prog w hb n sc e m)
    (he : ∀ env, starEach [e, .Name (Str.ofString T) tp] env = [(false, eval e env), (false, eval (.Name (Str.ofString T) tp) env)] := by intro _; rfl) :
    Ev prog w hb n sc (.Call (.Name (Str.ofString "isinstance") np) [e, .Name (Str.ofString T) tp] [] pos) (fun ρ => (m ρ).map fun v => ⟨.bool (isT T v.x), .d⟩) := by
  intro A env s₀ X C ρ O s v Q E hs hA I hm hQ
  obtain ⟨v, hv, rfl⟩ := Option.map_eq_some_iff.mp hm
  show wpAny _ _ (eval (.Name (Str.ofString "isinstance") np) env >>= fun f => callWith pos f [] (backTo pos (starEach [e, .Name (Str.ofString T) tp] env)) []) _ _ s
  refine wpAny_bind (eval_glob I (by rw [hs]; exact hx) hg ?_)
  rw [he]
  refine callWith_builtin rfl (evalArgs_plain (spliced_cons (h hs hA I hv fun u s₁ k₁ r₁ => ?_)))
  obtain ⟨as, rd, c, _⟩ := r₁
  refine spliced_cons (eval_glob (I.grow k₁) (by rw [hs]; exact hx') hg' (spliced_nil ?_))
  exact isinst_ok hT rd fun s' k => hQ _ _ (keeps_trans k₁ k) Rep.bool

/-! ## join -/
noncomputable def strsOf : List PyData → Option (List Str)
  | [] => some []
  | .str x :: xs => (strsOf xs).map (x :: ·)
  | _ :: _ => none
noncomputable def aJoin (sep : Str) (xs : List PyData) : Option PyData :=
  (strsOf xs).bind fun ts => if JoinOk sep ts = true ∧ wf (.str (Txt.join sep ts)) = true then some (.str (Txt.join sep ts)) else none
theorem strsOf_cons {x : PyData} {xs : List PyData} {ts : List Str} (h : strsOf (x :: xs) = some ts) : ∃ s ts', x = .str s ∧ strsOf xs = some ts' ∧ s :: ts' = ts := by
  cases x with
  | str s => obtain ⟨ts', h1, h2⟩ := Option.map_eq_some_iff.mp h; exact ⟨s, ts', rfl, h1, h2⟩
  | _ => cases h
theorem RDs.strs {h : Heap} {vs : List Value} {xs : List PyData} {as : List Addr} {ts : List Str} (r : RDs prog w h vs xs as) (e : strsOf xs = some ts) : ∃ l, vs = strValues l ∧ l.map (·.1) = ts := by
  refine RDs.ind (R := fun vs xs _ => ∀ ts, strsOf xs = some ts → ∃ l, vs = strValues l ∧ l.map (·.1) = ts) (fun ts e => ?_) (fun a _ r ts e => ?_) r ts e
  · cases e; exact ⟨[], rfl, rfl⟩
  · obtain ⟨s, ts', rfl, h1, rfl⟩ := strsOf_cons e
    obtain ⟨t, rfl⟩ := a.str_inv
    obtain ⟨l, e1, e2⟩ := r ts' h1
    exact ⟨(s, t) :: l, by rw [e1]; rfl, by rw [← e2]; rfl⟩
theorem Ev.join {sep : Str} {k : Nat} {kp ap pos : Pos} {e : Expr} {m : Rho → Option V} (h : Ev prog w hb n sc e m) (hl : (ap.endLine == pos.line) = true := by rfl) (he : ∀ env, starEach [e] env = [(false, eval e env)] := by intro _; rfl) :
    Ev prog w hb n sc (.Call (.Attribute (.Constant (.str sep) k kp) (Str.ofString "join") ap) [e] [] pos) (fun ρ => (m ρ).bind fun v => (match v.x with | .list xs => aJoin sep xs | _ => none).map fun y => ⟨y, .d⟩) := by
  intro A env s₀ X C ρ O s v Q E hs hA I hm hQ
  obtain ⟨a, ha, hm⟩ := Option.bind_eq_some_iff.mp hm
  obtain ⟨y, hy, rfl⟩ := Option.map_eq_some_iff.mp hm
  refine wpAny_Call_method rfl (by rw [he]; rfl) hl F.plainAttrs_str F.slot_str_join F.type_str_join ?_
  refine wpAny_mono (wpAny_Constant_str (x := sep) (Q := fun u s' => ∃ t, u = .str sep t ∧ Keeps s s') ⟨_, rfl, keeps_toks s _⟩) (fun u s₁ hu => ?_) fun _ _ e => e
  · obtain ⟨t, rfl, k₁⟩ := hu
    refine ⟨typeIs_str _ _ _, (fun _ e => nomatch e), ?_⟩
    rw [he]
    refine callWith_builtin rfl (evalArgs_plain (spliced_cons (h hs hA (I.grow k₁) ha fun u s₂ k₂ r₂ => spliced_nil ?_)))
    obtain ⟨as, rd, c, _⟩ := r₂
    split at hy
    · rename_i xs hx
      rw [hx] at rd
      obtain ⟨ts, h1, h2⟩ := Option.bind_eq_some_iff.mp hy
      split at h2
      · rename_i hok
        cases h2
        cases rd with
        | list a r =>
          obtain ⟨l, rfl, e2⟩ := r.strs h1
          exact SC.join ⟨_, a, rfl, _, rfl⟩ e2 hok.1 fun t' k => hQ _ _ (keeps_trans k₁ (keeps_trans k₂ (keeps_toks _ _))) (Rep.str hok.2)
      · cases h2
    · cases hy
/-! ## extend -/
end Mine

/-! text PF18 -/
set_option autoImplicit false
namespace Mine
open PySem PySem.Calls
variable {prog : Program} {w : World} {hb : Heap} {n : Nat} {sc : Scope}

/-! ## a text's defs by their names -/
noncomputable def fnB (p : Program) (i : Nat) : List Stmt := match p.main.body[i]? with
  | some (.FunctionDef _ _ b _ _ _ _ _ _ _) => b
  | _ => []
noncomputable def fnS (p : Program) (i : Nat) : Scope := match p.main.body[i]? with
  | some (.FunctionDef _ _ _ _ _ _ s _ _ _) => s
  | _ => default
/-- a global name is a def that computes m -/
noncomputable def DefG (prog : Program) (w : World) (hb : Heap) (n : Nat) (x : String) (m : List PyData → Option PyData) : Prop :=
  ∃ a o fd, GName hb x (.ref a) ∧ hb.get? a = some o ∧ o.data = .func fd ∧ Fn prog w hb n a m
noncomputable def DefAt (hb : Heap) (x : String) (sc : Scope) (ps : List String) (body : List Stmt) : Prop := ∃ a, GName hb x (.ref a) ∧ DefOk hb a sc ps body
theorem Fn.mono {f : Addr} {m : List PyData → Option PyData} {k : Nat} (h : Fn prog w hb k f m) (hk : k ≤ n) : Fn prog w hb n f m := by
  intro A s us xs as y Q E hA b rd hw hm hQ
  exact h (hA.mono hk) b rd hw hm hQ
theorem DefG.of {x : String} {ps : List String} {body : List Stmt} {m : Rho → Option Out} (D : DefAt hb x sc ps body) (h : St prog w hb n sc body m) (spec : List PyData → Option PyData) (hm : ∀ xs y, spec xs = some y → fnD ps m xs = some y) :
    DefG prog w hb (n + 1) x spec := by
  obtain ⟨a, g, D⟩ := D
  obtain ⟨fo, fd, args, ho, hd, _⟩ := D.there
  refine ⟨a, fo, fd, g, ho, hd, ?_⟩
  intro A s us xs as y Q E hA b rd hw hy hQ
  exact Fn.def D h hA b rd hw (hm xs y hy) hQ
theorem Ev.def {x : String} {k : Nat} {es : List Expr} {np pos : Pos} {ms : Rho → Option (List V)} {m : List PyData → Option PyData} (h : DefG prog w hb k x m) (hes : Evs prog w hb n sc es ms) (hx : isGlob sc x = true := by decide +kernel) (hk : k ≤ n := by decide)
    (hstar : ∀ env : Env, (backTo pos (starEach es env)).any (·.1) = false := by intro _; rfl) :
    Ev prog w hb n sc (.Call (.Name (Str.ofString x) np) es [] pos) (fun ρ => (ms ρ).bind fun vs => (m (vs.map (·.x))).map fun y => ⟨y, .d⟩) := by
  obtain ⟨a, o, fd, g, ho, hd, hf⟩ := h
  exact Ev.fn hx g ho hd hes (hf.mono hk) hstar
/-- the built-in names that stand -/
structure Bui (hb : Heap) : Prop where
  len : GName hb "len" (.builtin "len")
  isinstance : GName hb "isinstance" (.builtin "isinstance")
  range : GName hb "range" (.type "range")
  int : GName hb "int" (.type "int")
  bool : GName hb "bool" (.type "bool")
  str : GName hb "str" (.type "str")
  list : GName hb "list" (.type "list")
  tuple : GName hb "tuple" (.type "tuple")
theorem Ev.len {es : List Expr} {np pos : Pos} {ms : Rho → Option (List V)} (B : Bui hb) (hes : Evs prog w hb n sc es ms) (hx : isGlob sc "len" = true := by decide +kernel)
    (hstar : ∀ env : Env, (backTo pos (starEach es env)).any (·.1) = false := by intro _; rfl) :
    Ev prog w hb n sc (.Call (.Name (Str.ofString "len") np) es [] pos) (fun ρ => (ms ρ).bind fun vs => match vs with | [v] => (aLen v.x).map fun y => ⟨y, .d⟩ | _ => none) :=
  Ev.call hx B.len (.inl ⟨_, rfl⟩) hes CallOk.len hstar
theorem Ev.listOf {es : List Expr} {np pos : Pos} {ms : Rho → Option (List V)} (B : Bui hb) (hes : Evs prog w hb n sc es ms) (hx : isGlob sc "list" = true := by decide +kernel)
    (hstar : ∀ env : Env, (backTo pos (starEach es env)).any (·.1) = false := by intro _; rfl) :
    Ev prog w hb n sc (.Call (.Name (Str.ofString "list") np) es [] pos) (fun ρ => (ms ρ).bind fun vs => match vs with | [v] => (match v.x with | .list xs => some (V.newL xs v.fl) | .tuple xs => some (V.newL xs v.fl) | _ => none) | _ => none) :=
  Ev.call hx B.list (.inr (.inl ⟨_, rfl⟩)) hes CallOk.list hstar
theorem Ev.intOf {es : List Expr} {np pos : Pos} {ms : Rho → Option (List V)} (B : Bui hb) (hes : Evs prog w hb n sc es ms) (hx : isGlob sc "int" = true := by decide +kernel)
    (hstar : ∀ env : Env, (backTo pos (starEach es env)).any (·.1) = false := by intro _; rfl) :
    Ev prog w hb n sc (.Call (.Name (Str.ofString "int") np) es [] pos) (fun ρ => (ms ρ).bind fun vs => match vs with | [v] => (match v.x with | .bool b => some ⟨.int (if b then 1 else 0), .d⟩ | _ => none) | _ => none) :=
  Ev.call hx B.int (.inr (.inl ⟨_, rfl⟩)) hes CallOk.int hstar
theorem Ev.v {x : String} {pos : Pos} (hv : isVar sc x = true := by decide +kernel) : Ev prog w hb n sc (.Name (Str.ofString x) pos) (fun ρ => (ρ x).bind rdVar) := Ev.var hv
theorem Ev.s {x : Str} {k : Nat} {pos : Pos} (hx : wf (.str x) = true := by decide +kernel) : Ev prog w hb n sc (.Constant (.str x) k pos) (fun _ => some ⟨.str x, .d⟩) := Ev.cstr hx
end Mine

/-! text PF19 -/
set_option autoImplicit false
namespace Mine
open PySem PySem.Calls

/-! ## plain tools -/
theorem small_of {a : Int} (h1 : -(2 ^ 64) < a) (h2 : a < 2 ^ 64) : smallInt a = true := by
  unfold smallInt; exact decide_eq_true (intBits_le_64 h1 h2)
/-- a text of its signs -/
noncomputable def S (l : List Nat) : Str := ⟨l.toArray⟩
theorem S_length (l : List Nat) : (S l).length = l.length := by simp [S, Str.length]
theorem S_append (a b : List Nat) : S a ++ S b = S (a ++ b) := by
  show Str.append _ _ = _; simp [S, Str.append]
theorem S_inj {a b : List Nat} (h : S a = S b) : a = b := by
  have := congrArg Str.cps h
  simpa [S] using this
theorem S_eq {a b : List Nat} : S a = S b ↔ a = b := ⟨S_inj, fun h => by rw [h]⟩
theorem S_wf {l : List Nat} (h1 : l.length ≤ sizeLine) (h2 : ∀ c ∈ l, c < 0x110000) : wf (.str (S l)) = true := by
  rw [wf_str, S_length]
  refine ⟨?_, h1⟩
  unfold PyData.strOk S
  rw [Array.all_eq_true']
  intro c hc
  simpa using h2 c (by simpa using hc)
theorem glue_empty : ∀ ts : List (List Nat), Txt.join Str.empty (ts.map S) = S ts.flatten := by
  intro ts
  show Builtin.Str.glued Str.empty (ts.map S) = _
  rw [StrLaws.glued_eq_join]
  induction ts with
  | nil => rfl
  | cons a ts ih =>
    cases ts with
    | nil => simp [Str.join]
    | cons b ts =>
      show S a ++ Str.empty ++ Str.join Str.empty ((b :: ts).map S) = _
      rw [ih, show Str.empty = S [] from rfl, S_append, S_append]; simp
theorem strsOf_map : ∀ ts : List Str, strsOf (ts.map .str) = some ts
  | [] => rfl
  | t :: ts => by simp [strsOf, strsOf_map ts]
theorem join_ok {ts : List (List Nat)} (h1 : ts.flatten.length ≤ 1000) (h2 : ts.length ≤ 1000) (h3 : ∀ t ∈ ts, ∀ c ∈ t, c < 0x110000) : aJoin Str.empty (ts.map fun t => .str (S t)) = some (.str (S ts.flatten)) := by
  have e : (ts.map fun t => PyData.str (S t)) = (ts.map S).map .str := by simp
  unfold aJoin
  rw [e, strsOf_map]
  simp only [Option.bind_some]
  rw [glue_empty]
  refine if_pos ⟨?_, S_wf (Nat.le_trans h1 (by decide)) fun c hc => ?_⟩
  · have hs : ((ts.map S).map (·.length)).sum = ts.flatten.length := by
      rw [List.length_flatten, List.map_map]
      exact congrArg _ (List.map_congr_left fun t _ => S_length t)
    unfold JoinOk Builtin.Str.tooLong
    rw [StrLaws.joinTotal, hs]
    have hz : Str.empty.length = 0 := rfl
    have hl : (1000 : Nat) ≤ sizeLine := by decide
    rw [hz, Nat.mul_zero, Nat.add_zero, Bool.not_eq_true', decide_eq_false_iff_not]
    omega
  · obtain ⟨t, ht, hc⟩ := List.mem_flatten.mp hc
    exact h3 t ht c hc
/-! slices -/
theorem pick_run {α : Type} (xs : List α) (a : Nat) : ∀ n, a + n ≤ xs.length → ((List.range n).map (fun k => a + k)).filterMap (xs[·]?) = (xs.drop a).take n
  | 0, _ => by simp
  | n + 1, h => by
    rw [List.range_succ, List.map_append, List.filterMap_append, pick_run xs a n (by omega), List.take_add_one]
    congr 1
    rw [List.getElem?_drop, List.map_cons, List.map_nil, List.filterMap_cons, List.filterMap_nil]
    rw [List.getElem?_eq_getElem (by omega)]; rfl
theorem pick_range {α : Type} (xs : List α) (a b : Nat) (hb : b ≤ xs.length) : ((List.range (b - a)).map (fun k => a + k)).filterMap (xs[·]?) = (xs.take b).drop a := by
  rw [List.drop_take]
  by_cases h : a ≤ b
  · exact pick_run xs a (b - a) (by omega)
  · rw [show b - a = 0 by omega]; simp
theorem sliceRange_one (a b : Nat) : sliceRange (a : Int) (b : Int) 1 = (List.range (b - a)).map fun k => a + k := by
  unfold sliceRange
  simp only [show (1 : Int) > 0 by decide, if_true]
  split
  · have : ((b : Int) - a + 1 - 1) / 1 = ((b - a : Nat) : Int) := by rw [Int.ediv_one]; omega
    rw [this, Int.toNat_natCast]
    exact List.map_congr_left fun k _ => by omega
  · have : b - a = 0 := by omega
    rw [this]; rfl
noncomputable def clipLo (v : Option Int) (n : Nat) : Nat := match v with
  | none => 0
  | some i => if i < 0 then (i + n).toNat else min i.toNat n
noncomputable def clipHi (v : Option Int) (n : Nat) : Nat := match v with
  | none => n
  | some i => if i < 0 then (i + n).toNat else min i.toNat n
theorem clipHi_le (v : Option Int) (n : Nat) : clipHi v n ≤ n := by
  unfold clipHi; split
  · exact Nat.le_refl _
  · split <;> omega
theorem clipLo_le (v : Option Int) (n : Nat) : clipLo v n ≤ n := by
  unfold clipLo; split
  · exact Nat.zero_le _
  · split <;> omega
theorem sliceIdx_eq (lo hi : Option Int) (n : Nat) : sliceIdx lo hi none n = (List.range (clipHi hi n - clipLo lo n)).map fun k => clipLo lo n + k := by
  rw [← sliceRange_one]
  unfold sliceIdx sliceBounds
  simp only [Option.getD_none, show (1 : Int) > 0 by decide, if_true]
  congr 1
  · cases lo with
    | none => rfl
    | some i => simp only [clipLo]; split <;> omega
  · cases hi with
    | none => rfl
    | some i => simp only [clipHi]; split <;> omega
theorem slice_list (lo hi : Option Int) (xs : List PyData) : aSlice lo hi none (.list xs) = some (.list ((xs.take (clipHi hi xs.length)).drop (clipLo lo xs.length))) := by
  show (if (none : Option Int) = some 0 then none else some (PyData.list ((sliceIdx lo hi none xs.length).filterMap (xs[·]?)))) = _
  rw [if_neg (by simp), sliceIdx_eq, pick_range _ _ _ (clipHi_le _ _)]
theorem strSlice_eq (lo hi : Option Int) (n : Nat) : Builtin.Str.strSliceIndices lo hi 1 n = (List.range (clipHi hi n - clipLo lo n)).map fun k => clipLo lo n + k := by
  rw [← sliceRange_one]
  unfold Builtin.Str.strSliceIndices
  simp only [show (1 : Int) > 0 by decide, if_true]
  congr 1
  · cases lo with
    | none => rfl
    | some i => simp only [clipLo]; split <;> omega
  · cases hi with
    | none => rfl
    | some i => simp only [clipHi]; split <;> omega
theorem slice_str (lo hi : Option Int) (l : List Nat) : aSlice lo hi none (.str (S l)) = some (.str (S ((l.take (clipHi hi l.length)).drop (clipLo lo l.length)))) := by
  unfold aSlice
  simp only [Option.getD_none, show ((1 : Int) = 0) = False by simp, if_false]
  rw [strSlice_eq, S_length]
  congr 2
  split
  · rename_i h
    have h2 := h.2
    simp at h2
    have := clipHi_le hi l.length
    have := clipLo_le lo l.length
    rw [show clipLo lo l.length = 0 by omega, show clipHi hi l.length = l.length by omega]; simp
  · have e := pick_range l (clipLo lo l.length) (clipHi hi l.length) (clipHi_le _ _)
    rw [← e]; unfold S; simp
/-! loops -/
/-- one turn of a comprehension -/
noncomputable def cstep (bind : V → Rho → Option Rho) (test : Rho → Option Bool) (elt : Rho → Option V) (ρ : Rho) (x : PyData) : Option (Option PyData) :=
  (bind (V.fix x .s) ρ).bind fun ρ₁ => (test ρ₁).bind fun c => if c then (elt ρ₁).bind fun v => if v.fl = .d then some (some v.x) else none else some none
theorem compD_eq {bind : V → Rho → Option Rho} {test : Rho → Option Bool} {elt : Rho → Option V} {ρ : Rho} (f : PyData → Option PyData) : ∀ {xs : List PyData}, (∀ x ∈ xs, cstep bind test elt ρ x = some (f x)) → compD bind test elt ρ xs = some (xs.filterMap f)
  | [], _ => rfl
  | x :: xs, h => by
    have h1 := h x (.head _)
    have ih := compD_eq f fun y hy => h y (.tail _ hy)
    unfold cstep at h1
    obtain ⟨ρ₁, e1, h1⟩ := Option.bind_eq_some_iff.mp h1
    obtain ⟨c, e2, h1⟩ := Option.bind_eq_some_iff.mp h1
    unfold compD
    rw [e1]
    simp only [Option.bind_some, e2]
    cases c with
    | false =>
      simp only [Bool.false_eq_true, if_false] at h1 ⊢
      rw [List.filterMap_cons, ← (Option.some.inj h1), ih]
    | true =>
      simp only [if_true] at h1 ⊢
      obtain ⟨v, e3, h1⟩ := Option.bind_eq_some_iff.mp h1
      rw [e3]
      simp only [Option.bind_some]
      split at h1
      · rename_i hf
        rw [if_pos hf, ih, List.filterMap_cons, ← Option.some.inj h1]; rfl
      · cases h1
theorem forD_inv {bind : V → Rho → Option Rho} {body : Rho → Option Out} {f : Fl} {xs : List PyData} (P : Nat → Rho → Prop) : ∀ {ρ : Rho}, P 0 ρ →
    (∀ i x ρ, xs[i]? = some x → P i ρ → ∃ ρ₁ ρ', bind (V.fix x f) ρ = some ρ₁ ∧ body ρ₁ = some (.next ρ') ∧ P (i + 1) ρ') → ∃ ρ', forD bind body f xs ρ = some (.next ρ') ∧ P xs.length ρ' := by
  induction xs generalizing P with
  | nil => exact fun {ρ} h _ => ⟨ρ, rfl, h⟩
  | cons x xs ih =>
    intro ρ h0 hs
    obtain ⟨ρ₁, ρ₂, e1, e2, h1⟩ := hs 0 x ρ rfl h0
    obtain ⟨ρ', e3, h3⟩ := ih (fun i => P (i + 1)) h1 fun i y ρ hy hp => hs (i + 1) y ρ (by simpa using hy) hp
    refine ⟨ρ', ?_, h3⟩
    unfold forD
    rw [e1]; simp only [Option.bind_some, e2]; exact e3
/-- a while that turns k times -/
theorem whileD_inv {t : Rho → Option Bool} {b : Rho → Option Out} (P : Nat → Rho → Prop) (k : Nat) : ∀ {ρ : Rho} {fuel : Nat}, P 0 ρ → k < fuel →
    (∀ i ρ, i < k → P i ρ → ∃ ρ', t ρ = some true ∧ b ρ = some (.next ρ') ∧ P (i + 1) ρ') → (∀ ρ, P k ρ → t ρ = some false) → ∃ ρ', whileD t b fuel ρ = some (.next ρ') ∧ P k ρ' := by
  induction k generalizing P with
  | zero =>
    intro ρ fuel h0 hf _ he
    obtain ⟨fuel, rfl⟩ := Nat.exists_eq_succ_of_ne_zero (by omega : fuel ≠ 0)
    refine ⟨ρ, ?_, h0⟩
    unfold whileD
    rw [he ρ h0]; rfl
  | succ k ih =>
    intro ρ fuel h0 hf hs he
    obtain ⟨fuel, rfl⟩ := Nat.exists_eq_succ_of_ne_zero (by omega : fuel ≠ 0)
    obtain ⟨ρ₁, e1, e2, h1⟩ := hs 0 ρ (by omega) h0
    obtain ⟨ρ', e3, h3⟩ := ih (fun i => P (i + 1)) h1 (by omega : k < fuel) (fun i ρ hi hp => hs (i + 1) ρ (by omega) hp) he
    refine ⟨ρ', ?_, h3⟩
    unfold whileD
    rw [e1]; simp only [Option.bind_some, if_true, e2]; exact e3
theorem rangeOf_get {k : Int} {i : Nat} {x : PyData} (h : (rangeOf k)[i]? = some x) : (i : Int) < k ∧ x = .int i := by
  unfold rangeOf at h
  rw [List.getElem?_map] at h
  obtain ⟨j, e1, rfl⟩ := Option.map_eq_some_iff.mp h
  have := List.getElem?_eq_some_iff.mp e1
  obtain ⟨h1, h2⟩ := this
  simp at h1 h2
  subst h2
  exact ⟨by omega, rfl⟩
theorem rangeOf_len (k : Int) : (rangeOf k).length = k.toNat := by simp [rangeOf]
theorem rangeOf_mem {k : Int} {x : PyData} (h : x ∈ rangeOf k) : ∃ i : Nat, (i : Int) < k ∧ x = .int i := by
  obtain ⟨i, e⟩ := List.getElem?_of_mem h
  obtain ⟨h1, h2⟩ := rangeOf_get e
  exact ⟨i, h1, h2⟩
theorem comp_range {bind : V → Rho → Option Rho} {test : Rho → Option Bool} {elt : Rho → Option V} {ρ : Rho} {k : Int} (g : Nat → PyData) (h : ∀ i : Nat, (i : Int) < k → cstep bind test elt ρ (.int i) = some (some (g i))) :
    compD bind test elt ρ (rangeOf k) = some ((List.range k.toNat).map g) := by
  rw [compD_eq (fun x => match x with | .int i => some (g i.toNat) | _ => none) fun x hx => ?_]
  · unfold rangeOf
    rw [List.filterMap_map]
    congr 1
    generalize List.range k.toNat = l
    induction l with
    | nil => rfl
    | cons a l ih => rw [List.filterMap_cons]; simp only [Function.comp, Int.toNat_natCast, List.map_cons]; rw [← ih]
  · obtain ⟨i, hi, rfl⟩ := rangeOf_mem hx
    simpa using h i hi
theorem fdiv_pos {a b : Int} (h : 0 < b) : a.fdiv b = a / b := Int.fdiv_eq_ediv_of_nonneg a (Int.le_of_lt h)
theorem fmod_pos {a b : Int} (h : 0 < b) : a.fmod b = a % b := Int.fmod_eq_emod_of_nonneg a (Int.le_of_lt h)
end Mine

/-! text PF20 -/
set_option autoImplicit false
namespace Mine
open PySem PySem.Calls

/-! ## evaluation by equations -/
section
variable {f g : Fl} {a b : Int} {x y : Str} {xs ys : List PyData} {ρ : Rho} {s t : String} {vv : VV} {v : V}
theorem e_add : aBinV .Add ⟨.int a, f⟩ ⟨.int b, g⟩ = some ⟨.int (a + b), .d⟩ := rfl
theorem e_sub : aBinV .Sub ⟨.int a, f⟩ ⟨.int b, g⟩ = some ⟨.int (a - b), .d⟩ := rfl
theorem e_mul (h : smallInt a = true ∨ smallInt b = true) : aBinV .Mult ⟨.int a, f⟩ ⟨.int b, g⟩ = some ⟨.int (a * b), .d⟩ := by
  have : aBin .Mult (.int a) (.int b) = some (.int (a * b)) := by show (if _ then _ else _) = _; rw [if_pos (by simpa using h)]
  unfold aBinV; rw [this]; rfl
theorem e_mul_l (h1 : -18446744073709551616 < a) (h2 : a < 18446744073709551616) : aBinV .Mult ⟨.int a, f⟩ ⟨.int b, g⟩ = some ⟨.int (a * b), .d⟩ := e_mul (.inl (small_of h1 h2))
theorem e_mul_r (h1 : -18446744073709551616 < b) (h2 : b < 18446744073709551616) : aBinV .Mult ⟨.int a, f⟩ ⟨.int b, g⟩ = some ⟨.int (a * b), .d⟩ := e_mul (.inr (small_of h1 h2))
theorem e_div (h : 0 < b) : aBinV .FloorDiv ⟨.int a, f⟩ ⟨.int b, g⟩ = some ⟨.int (a / b), .d⟩ := by
  have : aBin .FloorDiv (.int a) (.int b) = some (.int (a / b)) := by show Option.map PyData.int (if b = 0 then none else some (a.fdiv b)) = _; rw [if_neg (by omega), fdiv_pos h]; rfl
  unfold aBinV; rw [this]; rfl
theorem e_mod (h : 0 < b) : aBinV .Mod ⟨.int a, f⟩ ⟨.int b, g⟩ = some ⟨.int (a % b), .d⟩ := by
  have : aBin .Mod (.int a) (.int b) = some (.int (a % b)) := by show Option.map PyData.int (if b = 0 then none else some (a.fmod b)) = _; rw [if_neg (by omega), fmod_pos h]; rfl
  unfold aBinV; rw [this]; rfl
theorem e_adds (h : x.length + y.length ≤ sizeLine) : aBinV .Add ⟨.str x, f⟩ ⟨.str y, g⟩ = some ⟨.str (x ++ y), .d⟩ := by
  have : aBin .Add (.str x) (.str y) = some (.str (x ++ y)) := by show (if _ then _ else _) = _; rw [if_pos h]
  unfold aBinV; rw [this]; rfl
theorem e_addl (h : xs.length + ys.length ≤ sizeLine) : aBinV .Add ⟨.list xs, f⟩ ⟨.list ys, g⟩ = some (V.newL (xs ++ ys) (f.join g)) := by
  have : aBin .Add (.list xs) (.list ys) = some (.list (xs ++ ys)) := by show (if _ then _ else _) = _; rw [if_pos h]
  unfold aBinV; rw [this]; rfl
theorem e_set : (ρ.set s vv) t = if t = s then some vv else ρ t := rfl
theorem e_rho_nil : rho0 [] [] t = none := rfl
theorem e_rho {ps : List String} {z : PyData} : rho0 (s :: ps) (z :: xs) t = if t = s then some (.val (V.fix z .s)) else rho0 ps xs t := by
  unfold rho0
  rw [List.zip_cons_cons, List.lookup_cons]
  by_cases h : t = s
  · subst h; simp
  · rw [if_neg h, beq_eq_false_iff_ne.mpr h]
theorem e_fint : V.fix (.int a) f = ⟨.int a, .d⟩ := rfl
theorem e_fstr : V.fix (.str x) f = ⟨.str x, .d⟩ := rfl
theorem e_fnone : V.fix .none f = ⟨.none, .d⟩ := rfl
theorem e_fbool {c : Bool} : V.fix (.bool c) f = ⟨.bool c, .d⟩ := rfl
theorem e_flist : V.fix (.list xs) f = ⟨.list xs, f⟩ := by simp [V.fix, flat]
theorem e_ftup (h : flats xs = true) : V.fix (.tuple xs) f = ⟨.tuple xs, .d⟩ := by simp [V.fix, flat, h]
theorem e_rv : rdVar (.val v) = some v := rfl
theorem e_rl : rdVar (.own (.lst xs)) = some ⟨.list xs, .t⟩ := rfl
theorem e_rd {kvs : List (Str × PyData)} : rdVar (.own (.dct kvs)) = some ⟨dictOf kvs, .t⟩ := rfl
theorem e_putd {z : PyData} : putV ρ s ⟨z, .d⟩ = some (.next (ρ.set s (.val ⟨z, .d⟩))) := rfl
theorem e_puts {z : PyData} : putV ρ s ⟨z, .s⟩ = some (.next (ρ.set s (.val ⟨z, .s⟩))) := rfl
theorem e_putRd {z : PyData} : putR s ⟨z, .d⟩ ρ = some (ρ.set s (.val ⟨z, .d⟩)) := rfl
theorem e_putRs {z : PyData} : putR s ⟨z, .s⟩ ρ = some (ρ.set s (.val ⟨z, .s⟩)) := rfl
theorem e_tup : tupOf ⟨.tuple xs, f⟩ = some (xs.map fun z => V.fix z f) := rfl
theorem e_putn : putRs [] [] ρ = some ρ := rfl
theorem e_putc {ns : List String} {vs : List V} : putRs (s :: ns) (v :: vs) ρ = (putR s v ρ).bind (putRs ns vs) := rfl
theorem e_thn {m : Rho → Option Out} : thenB m (.next ρ) = m ρ := rfl
theorem e_thr {m : Rho → Option Out} {z : PyData} : thenB m (.ret z) = some (.ret z) := rfl
theorem e_lt : aCmp .Lt (.int a) (.int b) = some (decide (a < b)) := rfl
theorem e_le : aCmp .LtE (.int a) (.int b) = some (decide (a ≤ b)) := rfl
theorem e_gt : aCmp .Gt (.int a) (.int b) = some (decide (a > b)) := rfl
theorem e_ge : aCmp .GtE (.int a) (.int b) = some (decide (a ≥ b)) := rfl
theorem e_eqi : aCmp .Eq (.int a) (.int b) = some (a == b) := rfl
theorem e_nei : aCmp .NotEq (.int a) (.int b) = some (!(a == b)) := rfl
theorem e_eqs : aCmp .Eq (.str x) (.str y) = some (x == y) := rfl
theorem e_nes : aCmp .NotEq (.str x) (.str y) = some (!(x == y)) := rfl
theorem e_is {z : PyData} : aCmp .Is z .none = some (isNone z) := rfl
theorem e_isnot {z : PyData} : aCmp .IsNot z .none = some (!isNone z) := rfl
theorem e_len_l : aLen (.list xs) = some (.int xs.length) := rfl
theorem e_len_t : aLen (.tuple xs) = some (.int xs.length) := rfl
theorem e_len_s : aLen (.str x) = some (.int x.length) := rfl
theorem e_tb {c : Bool} : aTruth (.bool c) = some c := rfl
theorem e_ti : aTruth (.int a) = some (a != 0) := rfl
theorem e_tl : aTruth (.list xs) = some (!xs.isEmpty) := rfl
theorem e_tn : aTruth .none = some false := rfl
end
theorem e_inc {locs : List String} {ρ : Rho} {t : String} : inComp locs ρ t = if t ∈ locs then none else (ρ t).bind fun vv => (rdVar vv).map fun v => .val (V.fix v.x .s) := rfl
theorem e_idx_s {l : List Nat} {k : Int} : aIdx (.str (S l)) (.int k) = (seqAt l k).map fun c => .str (S [c]) := by
  rfl
theorem e_idx_l {xs : List PyData} {k : Int} : aIdx (.list xs) (.int k) = seqAt xs k := rfl
theorem e_idx_t {xs : List PyData} {k : Int} : aIdx (.tuple xs) (.int k) = seqAt xs k := rfl
theorem seqAt_nat {α : Type} {xs : List α} {k : Int} (h : 0 ≤ k) : seqAt xs k = xs[k.toNat]? := if_pos h
theorem le_line {n : Nat} (h : n ≤ 1000) : n ≤ sizeLine := Nat.le_trans h (by decide)
theorem le_lineI {n : Int} (h : n ≤ 1000) : n ≤ (sizeLine : Int) := Int.le_trans h (by decide)
theorem rng_lo {k : Int} (h : 0 ≤ k) : -4611686018427387904 ≤ k := by omega
theorem fls_nil : flsOf [] = .d := rfl
theorem fls_d {x : PyData} {vs : List V} : flsOf (⟨x, .d⟩ :: vs) = flsOf vs := by
  show Fl.join .d (flsOf vs) = _
  cases flsOf vs <;> rfl
theorem newL_d {xs : List PyData} : V.newL xs .d = ⟨.list xs, .d⟩ := by unfold V.newL; split <;> rfl
theorem fixT_d {xs : List PyData} : V.fix (.tuple xs) .d = ⟨.tuple xs, .d⟩ := by unfold V.fix; split <;> rfl
theorem flat1 {α β : Type} (f : α → β) : ∀ l : List α, (l.map fun j => [f j]).flatten = l.map f
  | [] => rfl
  | a :: l => by rw [List.map_cons, List.flatten_cons, flat1 f l]; rfl
theorem e_sls {lo hi : Option Int} {l : List Nat} {f : Fl} : aSliceV lo hi none ⟨.str (S l), f⟩ = some ⟨.str (S ((l.take (clipHi hi l.length)).drop (clipLo lo l.length))), .d⟩ := by
  unfold aSliceV; rw [slice_str]; rfl
theorem e_sll {lo hi : Option Int} {l : List PyData} {f : Fl} : aSliceV lo hi none ⟨.list l, f⟩ = some (V.newL ((l.take (clipHi hi l.length)).drop (clipLo lo l.length)) f) := by
  unfold aSliceV; rw [slice_list]; rfl
theorem hi_some {i : Int} {n : Nat} (h : 0 ≤ i) (h' : i ≤ n) : clipHi (some i) n = i.toNat := by
  simp only [clipHi]; rw [if_neg (by omega)]; omega
theorem lo_some {i : Int} {n : Nat} (h : 0 ≤ i) (h' : i ≤ n) : clipLo (some i) n = i.toNat := by
  simp only [clipLo]; rw [if_neg (by omega)]; omega
theorem hi_none {n : Nat} : clipHi none n = n := rfl
theorem lo_none {n : Nat} : clipLo none n = 0 := rfl
theorem e_addS {a b : List Nat} {f g : Fl} (h : a.length + b.length ≤ 1000) : aBinV .Add ⟨.str (S a), f⟩ ⟨.str (S b), g⟩ = some ⟨.str (S (a ++ b)), .d⟩ := by
  rw [e_adds (by rw [S_length, S_length]; exact le_line h), S_append]
/-- the letters -/
noncomputable def letters : List Nat := (List.range 26).map (97 + ·)
theorem letters_eq : Str.ofString "abcdefghijklmnopqrstuvwxyz" = S letters := by decide +kernel
theorem empty_eq : Str.ofString "" = Str.empty := by decide +kernel
theorem letters_at {i : Int} (h0 : 0 ≤ i) (h1 : i < 26) : seqAt letters i = some (97 + i.toNat) := by
  rw [seqAt_nat h0]; unfold letters
  rw [List.getElem?_map, List.getElem?_range (by omega)]; rfl
/-- a block at a frame (kept as it is, so that what is left to run is not written out anew at each step) -/
noncomputable def run (m : Rho → Option Out) (ρ : Rho) : Option Out := m ρ
noncomputable def tst (m : Rho → Option Bool) (ρ : Rho) : Option Bool := m ρ
theorem tst_eq {m : Rho → Option Bool} {ρ : Rho} : tst m ρ = m ρ := rfl
noncomputable def evl (m : Rho → Option V) (ρ : Rho) : Option V := m ρ
theorem evl_eq {m : Rho → Option V} {ρ : Rho} : evl m ρ = m ρ := rfl
noncomputable def itr (m : Rho → Option (List PyData × Fl)) (ρ : Rho) : Option (List PyData × Fl) := m ρ
theorem itr_eq {m : Rho → Option (List PyData × Fl)} {ρ : Rho} : itr m ρ = m ρ := rfl
theorem run_eq {m : Rho → Option Out} {ρ : Rho} : run m ρ = m ρ := rfl
/-- one statement, then the rest -/
theorem seq {x m' : Rho → Option Out} {ρ ρ₁ : Rho} {o : Out} (h : run x ρ = some (.next ρ₁)) (h' : run m' ρ₁ = some o) : run (fun ρ => (x ρ).bind (thenB m')) ρ = some o := by
  show (run x ρ).bind (thenB m') = _; rw [h]; exact h'
theorem seqRet {x m' : Rho → Option Out} {ρ : Rho} {y : PyData} (h : run x ρ = some (.ret y)) : run (fun ρ => (x ρ).bind (thenB m')) ρ = some (.ret y) := by
  show (run x ρ).bind (thenB m') = _; rw [h]; rfl
theorem fn_ret {ps : List String} {m : Rho → Option Out} {xs : List PyData} {y : PyData} (hl : xs.length = ps.length) (h : run m (rho0 ps xs) = some (.ret y)) : fnD ps m xs = some y := by
  unfold fnD; rw [if_pos hl, show m (rho0 ps xs) = some (.ret y) from h]; rfl
end Mine

/-! text PF21 -/
set_option autoImplicit false
namespace Mine
open PySem PySem.Calls
/-! ## stepping with facts -/
section
variable {x m' : Rho → Option Out} {ρ ρ₁ : Rho} {o : Out} {P Q : Rho → Prop}
theorem seqE (P : Rho → Prop) (h : ∃ ρ₁, run x ρ = some (.next ρ₁) ∧ P ρ₁) (h' : ∀ ρ₁, P ρ₁ → run m' ρ₁ = some o) : run (fun ρ => (x ρ).bind (thenB m')) ρ = some o := by
  obtain ⟨ρ₁, h, p⟩ := h; exact seq h (h' ρ₁ p)
theorem seqN (h : run x ρ = some (.next ρ₁)) (h' : ∃ ρ₂, run m' ρ₁ = some (.next ρ₂) ∧ Q ρ₂) : ∃ ρ₂, run (fun ρ => (x ρ).bind (thenB m')) ρ = some (.next ρ₂) ∧ Q ρ₂ := by
  obtain ⟨ρ₂, h', q⟩ := h'; exact ⟨ρ₂, seq h h', q⟩
theorem seqX (P : Rho → Prop) (h : ∃ ρ₁, run x ρ = some (.next ρ₁) ∧ P ρ₁) (h' : ∀ ρ₁, P ρ₁ → ∃ ρ₂, run m' ρ₁ = some (.next ρ₂) ∧ Q ρ₂) : ∃ ρ₂, run (fun ρ => (x ρ).bind (thenB m')) ρ = some (.next ρ₂) ∧ Q ρ₂ := by
  obtain ⟨ρ₁, h, p⟩ := h; exact seqN h (h' ρ₁ p)
theorem doneN (h : Q ρ) : ∃ ρ₂, run (fun ρ => some (.next ρ)) ρ = some (.next ρ₂) ∧ Q ρ₂ := ⟨ρ, rfl, h⟩
theorem forD_inv' {bind : V → Rho → Option Rho} {body : Rho → Option Out} {f : Fl} {xs : List PyData} (P : Nat → Rho → Prop) {ρ : Rho} (h0 : P 0 ρ)
    (hs : ∀ i x ρ, xs[i]? = some x → P i ρ → ∃ ρ₁, bind (V.fix x f) ρ = some ρ₁ ∧ ∃ ρ', run body ρ₁ = some (.next ρ') ∧ P (i + 1) ρ') : ∃ ρ', forD bind body f xs ρ = some (.next ρ') ∧ P xs.length ρ' :=
  forD_inv P h0 fun i x ρ hx hp => let ⟨a, b, c, d, e⟩ := hs i x ρ hx hp; ⟨a, c, b, d, e⟩
theorem for_run {mi : Rho → Option (List PyData × Fl)} {bind : V → Rho → Option Rho} {mb : Rho → Option Out} {ρ : Rho} (xs : List PyData) (f : Fl) (hi : itr mi ρ = some (xs, f)) (hf : f ≠ .t) (h : ∃ ρ', forD bind mb f xs ρ = some (.next ρ') ∧ Q ρ') :
    ∃ ρ', run (fun ρ => (mi ρ).bind fun v => if v.2 = .t then none else forD bind mb v.2 v.1 ρ) ρ = some (.next ρ') ∧ Q ρ' := by
  dsimp only [run]; rw [show mi ρ = _ from hi]; simp only [Option.bind_some, if_neg hf]; exact h
theorem ifR_yes {mt : Rho → Option Bool} {a b : Rho → Option Out} {o : Out} (ht : tst mt ρ = some true) (h : run a ρ = some o) : run (fun ρ => (mt ρ).bind fun c => if c then a ρ else b ρ) ρ = some o := by
  dsimp only [run]; rw [show mt ρ = _ from ht]; exact h
theorem ifR_no {mt : Rho → Option Bool} {a b : Rho → Option Out} {o : Out} (ht : tst mt ρ = some false) (h : run b ρ = some o) : run (fun ρ => (mt ρ).bind fun c => if c then a ρ else b ρ) ρ = some o := by
  dsimp only [run]; rw [show mt ρ = _ from ht]; exact h
theorem range_snoc {α : Type} (f : Nat → α) (n : Nat) : (List.range (n + 1)).map f = (List.range n).map f ++ [f n] := by rw [List.range_succ, List.map_append]; rfl
theorem map_range_get {α : Type} (f : Nat → α) {n i : Nat} (h : i < n) : ((List.range n).map f)[i]? = some (f i) := by rw [List.getElem?_map, List.getElem?_range h]; rfl
theorem fl_nil : flats [] = true := rfl
theorem fl_int {a : Int} {xs : List PyData} : flats (.int a :: xs) = flats xs := by simp [flats, flat]
theorem fl_str {a : Str} {xs : List PyData} : flats (.str a :: xs) = flats xs := by simp [flats, flat]
theorem fl_none {xs : List PyData} : flats (.none :: xs) = flats xs := by simp [flats, flat]
theorem fl_bool {a : Bool} {xs : List PyData} : flats (.bool a :: xs) = flats xs := by simp [flats, flat]
theorem fl_tup {ys xs : List PyData} : flats (.tuple ys :: xs) = (flats ys && flats xs) := by simp [flats, flat]
theorem ofS_beq (a b : String) : (Str.ofString a == Str.ofString b) = (a == b) := by
  rw [Bool.eq_iff_iff, beq_iff_eq, beq_iff_eq]
  exact ⟨ofString_inj, fun h => by rw [h]⟩
theorem fix_d {x : PyData} : V.fix x .d = ⟨x, .d⟩ := by unfold V.fix; split <;> rfl
section
variable {bind : V → Rho → Option Rho} {test : Rho → Option Bool} {elt : Rho → Option V} {ρ : Rho} {α : Type}
theorem compD_cons {y : PyData} {ys zs : List PyData} {r : Option PyData} (h : cstep bind test elt ρ y = some r) (h' : compD bind test elt ρ ys = some zs) : compD bind test elt ρ (y :: ys) = some (r.elim zs (fun z => z :: zs)) := by
  unfold cstep at h
  obtain ⟨ρ₁, e1, h⟩ := Option.bind_eq_some_iff.mp h
  obtain ⟨c, e2, h⟩ := Option.bind_eq_some_iff.mp h
  unfold compD
  rw [e1]
  simp only [Option.bind_some, e2]
  cases c with
  | false =>
    simp only [Bool.false_eq_true, if_false] at h ⊢
    rw [← (Option.some.inj h)]; exact h'
  | true =>
    simp only [if_true] at h ⊢
    obtain ⟨v, e3, h⟩ := Option.bind_eq_some_iff.mp h
    rw [e3]
    simp only [Option.bind_some]
    split at h
    · rename_i hf
      rw [if_pos hf, h', ← Option.some.inj h]; rfl
    · cases h
theorem comp_enc (enc : α → PyData) (f : α → Option PyData) : ∀ {xs : List α}, (∀ a ∈ xs, cstep bind test elt ρ (enc a) = some (f a)) → compD bind test elt ρ (xs.map enc) = some (xs.filterMap f)
  | [], _ => rfl
  | a :: xs, h => by
    rw [List.map_cons, compD_cons (h a (.head _)) (comp_enc enc f fun b hb => h b (.tail _ hb)), List.filterMap_cons]
    generalize f a = r
    cases r <;> rfl
theorem comp_map (enc g : α → PyData) {xs : List α} (h : ∀ a ∈ xs, cstep bind test elt ρ (enc a) = some (some (g a))) : compD bind test elt ρ (xs.map enc) = some (xs.map g) := by
  rw [comp_enc enc (fun a => some (g a)) h]; simp
end
end
end Mine

/-! text PF22 -/
set_option autoImplicit false
namespace Mine
open PySem PySem.Calls
mutual
theorem eqv_self : ∀ x : PyData, nd x = true → PyData.eqv x x = true
  | .none, _ => by simp [PyData.eqv]
  | .bool _, _ => by simp [PyData.eqv]
  | .int _, _ => by simp [PyData.eqv]
  | .str _, _ => by simp [PyData.eqv]
  | .list xs, h => by rw [PyData.eqv]; exact eqvs_self xs (by simpa [nd] using h)
  | .tuple xs, h => by rw [PyData.eqv]; exact eqvs_self xs (by simpa [nd] using h)
  | .dict _, h => by simp [nd] at h
theorem eqvs_self : ∀ xs : List PyData, nds xs = true → PyData.eqvAll xs xs = true
  | [], _ => by simp [PyData.eqvAll]
  | x :: xs, h => by
    simp only [nds, Bool.and_eq_true] at h
    simp [PyData.eqvAll, eqv_self x h.1, eqvs_self xs h.2]
end
/-- data without dicts, at most so deep -/
noncomputable def plain (k : Nat) (x : PyData) : Prop := nd x = true ∧ x.depth ≤ k
theorem plain_mono {j k : Nat} {x : PyData} (h : plain j x) (hk : j ≤ k) : plain k x := ⟨h.1, Nat.le_trans h.2 hk⟩
theorem plain_none : plain 1 .none := ⟨rfl, by simp [PyData.depth]⟩
theorem plain_bool (b : Bool) : plain 1 (.bool b) := ⟨rfl, by simp [PyData.depth]⟩
theorem plain_str (b : Str) : plain 1 (.str b) := ⟨rfl, by simp [PyData.depth]⟩
theorem depthAll_le {k : Nat} : ∀ {xs : List PyData}, (∀ x ∈ xs, x.depth ≤ k) → PyData.depthAll xs ≤ k
  | [], _ => by simp [PyData.depthAll]
  | x :: xs, h => by
    have h1 := h x (.head _)
    have h2 := depthAll_le fun y hy => h y (.tail _ hy)
    simp only [PyData.depthAll]; omega
theorem plain_list {k : Nat} {xs : List PyData} (h : ∀ x ∈ xs, plain k x) : plain (k + 1) (.list xs) := by
  refine ⟨?_, ?_⟩
  · simp only [nd]; exact (nds_iff xs).mpr fun x hx => (h x hx).1
  · have := depthAll_le fun x hx => (h x hx).2
    simp only [PyData.depth]; omega
theorem plain_tuple {k : Nat} {xs : List PyData} (h : ∀ x ∈ xs, plain k x) : plain (k + 1) (.tuple xs) := by
  refine ⟨?_, ?_⟩
  · simp only [nd]; exact (nds_iff xs).mpr fun x hx => (h x hx).1
  · have := depthAll_le fun x hx => (h x hx).2
    simp only [PyData.depth]; omega
theorem e_ne {x y : PyData} (hx : plain 60 x) (hy : plain 60 y) : aCmp .NotEq x y = some (!PyData.eqv x y) := by
  have : (nd x && nd y && decide (min x.depth y.depth ≤ 60)) = true := by
    have := hx.2
    simp only [hx.1, hy.1, Bool.and_self, Bool.true_and, decide_eq_true_eq]; omega
  simp only [aCmp, cmpE, this, if_true, Option.map_some]
theorem e_eq {x y : PyData} (hx : plain 60 x) (hy : plain 60 y) : aCmp .Eq x y = some (PyData.eqv x y) := by
  have : (nd x && nd y && decide (min x.depth y.depth ≤ 60)) = true := by
    have := hx.2
    simp only [hx.1, hy.1, Bool.and_self, Bool.true_and, decide_eq_true_eq]; omega
  simp only [aCmp, cmpE, this, if_true]
theorem e_ne_self {x : PyData} (hx : plain 60 x) : aCmp .NotEq x x = some false := by rw [e_ne hx hx, eqv_self x hx.1]; rfl
theorem e_eq_self {x : PyData} (hx : plain 60 x) : aCmp .Eq x x = some true := by rw [e_eq hx hx, eqv_self x hx.1]
theorem whileD_inv' {t : Rho → Option Bool} {b : Rho → Option Out} (P : Nat → Rho → Prop) (k : Nat) {ρ : Rho} {fuel : Nat} (h0 : P 0 ρ) (hf : k < fuel)
    (hs : ∀ i ρ, i < k → P i ρ → tst t ρ = some true ∧ ∃ ρ', run b ρ = some (.next ρ') ∧ P (i + 1) ρ') (he : ∀ ρ, P k ρ → tst t ρ = some false) : ∃ ρ', run (whileD t b fuel) ρ = some (.next ρ') ∧ P k ρ' :=
  whileD_inv P k h0 hf (fun i ρ hi hp => let ⟨a, b, c, d⟩ := hs i ρ hi hp; ⟨b, a, c, d⟩) he
/-- a frame of which some names are known -/
theorem know_nil {ρ : Rho} : ∀ p ∈ ([] : List (String × VV)), ρ p.1 = some p.2 := fun _ q => nomatch q
theorem know_cons {ρ : Rho} {x : String} {v : VV} {kv : List (String × VV)} (h : ρ x = some v) (h' : ∀ p ∈ kv, ρ p.1 = some p.2) : ∀ p ∈ (x, v) :: kv, ρ p.1 = some p.2 := fun p hp => by
  rcases List.mem_cons.mp hp with rfl | hp
  · exact h
  · exact h' p hp
noncomputable def know (kv : List (String × VV)) (ρ : Rho) : Rho := fun x => match kv.lookup x with
  | some v => some v
  | none => ρ x
theorem rho_know {ρ : Rho} (kv : List (String × VV)) (h : ∀ p ∈ kv, ρ p.1 = some p.2) : ρ = know kv ρ := by
  funext x
  unfold know
  split
  · rename_i v hv
    induction kv with
    | nil => cases hv
    | cons p kv ih =>
      rw [List.lookup_cons] at hv
      by_cases e : x = p.1
      · rw [e, beq_self_eq_true] at hv
        cases hv
        rw [e]; exact h p (.head _)
      · rw [beq_eq_false_iff_ne.mpr e] at hv
        exact ih (fun q hq => h q (.tail _ hq)) hv
  · rfl
/-- an assignment whose value is known -/
theorem seqPut {ρ : Rho} {e : Rho → Option V} {s : String} {m' : Rho → Option Out} {o : Out} (x : PyData) (h : evl e ρ = some ⟨x, .d⟩) (h' : run m' (ρ.set s (.val ⟨x, .d⟩)) = some o) : run (fun ρ => ((e ρ).bind (putV ρ s)).bind (thenB m')) ρ = some o := by
  dsimp only [run]; rw [show e ρ = _ from h]; exact h'
theorem seqUn3 {ρ : Rho} {e : Rho → Option V} {a b c : String} {m' : Rho → Option Out} {o : Out} (x y z : PyData) (h : evl e ρ = some ⟨.tuple [x, y, z], .d⟩) (h' : run m' (((ρ.set a (.val ⟨x, .d⟩)).set b (.val ⟨y, .d⟩)).set c (.val ⟨z, .d⟩)) = some o) :
    run (fun ρ => ((e ρ).bind fun v => ((tupOf v).bind fun vs => putRs [a, b, c] vs ρ).map .next).bind (thenB m')) ρ = some o := by
  unfold run
  dsimp only
  rw [show e ρ = _ from h]
  simp only [Option.bind_some, tupOf, List.map_cons, List.map_nil, fix_d]
  exact h'
end Mine

/-! text PF23 -/
set_option autoImplicit false
namespace Mine
open PySem PySem.Calls PySem.W PyProof.Rows
variable {prog : Program} {w : World} {hb : Heap}
/-! ## from the top to the law -/
theorem defAt_of {K : Frag} {mg : Str → Option Value} (X : K.In hb) (G : hb.Ns mainGlobals mg) {x : String} {ps : List String} {a : Addr} {oc kV doc pm cdv ct : Value} {an od : Option Addr} {osl : Array (Option Value)} {name qual : Str} {args : List Arg} {body : List Stmt} {sc : Scope}
    (hg : nsIn K mainGlobals (Str.ofString x) = some (some (.ref a))) (ho : K.lookup a = some ⟨oc, od, .func (fnOf name qual ⟨[], args, none, [], [], none, []⟩ body sc .none kV doc pm an cdv ct), osl⟩) (hcd : codeIn K cdv qual = true) (hnm : args.map (·.arg) = ps.map Str.ofString)
    (hk : sc.kind = .function) (hgen : sc.isGenerator = false) (hco : sc.isCoroutine = false) (hon : cellsOnce sc = true) (hnd : ps.Nodup) (hv : ∀ x ∈ ps, isVar sc x = true) : DefAt hb x sc ps body :=
  ⟨a, .inl ⟨mg, G, mg_of X G hg⟩, ⟨_, _, args, X _ _ ho, rfl, rfl, hnm, rfl, rfl, rfl, rfl, rfl, rfl, codeRec_of X hcd⟩, hk, hgen, hco, hon, hnd, hv⟩
theorem bname_of {K : Frag} {mg mb : Str → Option Value} (X : K.In hb) (G : hb.Ns mainGlobals mg) (Gb : hb.Ns builtinsNs mb) (hb' : ∀ x : Str, x ≠ "__name__" → mb x = bootBuiltins x) {x : String} {v : Value} (hg : nsIn K mainGlobals (Str.ofString x) = some none)
    (hv : bootBuiltins (Str.ofString x) = some v) (hn : Str.ofString x ≠ "__name__") : GName hb x v := .inr ⟨mg, mb, G, mg_none_of X G hg, Gb, (hb' _ hn).trans hv⟩
theorem wellAll_ints {P : Params} : ∀ {vs : List Value} {l : List Int}, WellAll P hb vs (ofPys (l.map .int)) → RDs prog w hb vs (l.map .int) []
  | vs, [], h => by cases h; exact .nil
  | vs, i :: l, h => by
    cases h with
    | cons h1 h2 =>
      cases h1
      exact .cons (as := []) (.int _ _) (wellAll_ints h2)
theorem rd_ints {P : Params} {a : Addr} {l : List Int} (h : Well P hb (.ref a) (ofPy (.list (l.map .int)))) : RD prog w hb (.ref a) (.list (l.map .int)) [a] := by
  have h' : Well P hb (.ref a) (.list (ofPys (l.map .int))) := by simpa [ofPy] using h
  cases h' with
  | list h1 h2 => exact .list (n := 0) h1 (wellAll_ints h2)
theorem base_of {s : Heap} {p : Program} {loose : List Str} {mean : ExcName → Option Value} {mg mb : Str → Option Value} (T : Top p loose mean mg mb s) (hi : importsNone p = true) (ht : prog.given.tree = none) : Base prog s s := by
  have sr := T.seer hi
  refine ⟨T.nolimit, sr, ht, ?_, Grow.refl _⟩
  obtain ⟨mm, ⟨o, _, _, ho, _⟩, _⟩ := sr.mods
  exact ⟨o, ho⟩
theorem law_run {n : Nat} {m : List PyData → Option PyData} {s : Shared} {mg : Str → Option Value} {fa a : Addr} {l : List Int} {P : Params} {Q : Value → Shared → Prop} {E : Value → Shared → Prop} (hD : DefG prog w s.heap n "law" m) (hm : m [.list (l.map .int)] = some (.bool true))
    (b : Base prog s.heap s.heap) (G : s.heap.Ns mainGlobals mg) (hfa : mg (Str.ofString "law") = some (.ref fa)) (hw : Well P s.heap (.ref a) (ofPy (.list (l.map .int)))) (hl : l.length ≤ 63) (hn : n ≤ 100) (hQ : ∀ s', Keeps s s' → Q (.bool true) s') :
    wpAny (model prog w) callerA (call (.ref fa) [.ref a]) Q E s := by
  obtain ⟨a', o, fd, g, ho, hd, hf⟩ := hD
  have e : a' = fa := by
    rcases g with ⟨mg', G', e⟩ | ⟨mg', mb', G', e, _⟩
    · have := G.agree G' (Str.ofString "law")
      rw [hfa, e] at this
      cases this; rfl
    · have := G.agree G' (Str.ofString "law")
      rw [hfa, e] at this
      cases this
  subst e
  have hA : Room callerA n := by
    refine ⟨rfl, ?_, ?_, ⟨[], rfl⟩⟩
    · have : (1 + claimMargin) + 100 + 100 < recursionLimit := by decide
      show (1 + claimMargin) + n + 100 < recursionLimit
      omega
    · have : 4 + 8 * 100 + 100 < cLine := by decide
      show 4 + 8 * n + 100 < cLine
      omega
  have hwf : wfs [.list (l.map PyData.int)] = true := by
    simp only [wfs, wf, Bool.and_true, Bool.and_eq_true, decide_eq_true_eq]
    refine ⟨Nat.le_trans (by simpa using hl) (by decide : 63 ≤ sizeLine), (wfs_iff _).mpr fun x hx => ?_⟩
    obtain ⟨i, _, rfl⟩ := List.mem_map.mp hx
    rfl
  refine hf hA b (.cons (rd_ints hw) .nil) hwf hm fun u as s' k r c fr => ?_
  cases r
  exact hQ s' k
end Mine

/-! text PF24 -/
set_option autoImplicit false
namespace Mine
open PySem PySem.Calls
variable {prog : Program} {w : World} {hb : Heap} {n : Nat} {sc : Scope}
section
variable {s₀ s s' : Shared} {X : List Addr} {env : Env} {C : List Addr} {ρ : Rho} {O : List (String × List Addr)}
end
section
variable {s₀ s : Shared} {X : List Addr} {env : Env} {C : List Addr} {ρ : Rho} {O : List (String × List Addr)}
end
end Mine

/-! text PF25 -/
set_option autoImplicit false
namespace Mine
open PySem PySem.Calls
variable {prog : Program} {w : World} {hb : Heap} {n : Nat} {sc : Scope}
/-! ## a dict's get -/
noncomputable def dictOfD : PyData → Option (List (PyData × PyData))
  | .dict kvs => some kvs
  | _ => none
theorem dictOfD_some {x : PyData} {kvs : List (PyData × PyData)} (h : dictOfD x = some kvs) : x = .dict kvs := by
  cases x with
  | dict k => cases h; rfl
  | _ => cases h
noncomputable def aGet (a k d : V) : Option V := (dictOfD a.x).bind fun kvs => (keyOf k.x).map fun key => match atKey key kvs with
  | some x => V.fix x a.fl
  | none => d
theorem aGet_some {a k d v : V} (h : aGet a k d = some v) : ∃ kvs key, a.x = .dict kvs ∧ k.x = .str key ∧ v = match atKey key kvs with | some x => V.fix x a.fl | none => d := by
  obtain ⟨kvs, h1, h⟩ := Option.bind_eq_some_iff.mp h
  obtain ⟨key, h2, rfl⟩ := Option.map_eq_some_iff.mp h
  exact ⟨kvs, key, dictOfD_some h1, keyOf_some h2, rfl⟩
end Mine

/-! text PF26 -/
set_option autoImplicit false
namespace Mine
open PySem PySem.Calls
variable {prog : Program} {w : World} {hb : Heap} {n : Nat} {sc : Scope}
/-! ## several names at once -/
theorem S1.assignTg {tgt e : Expr} {pos : Pos} {m : Rho → Option V} {bind : V → Rho → Option Rho} (h : Ev prog w hb n sc e m) (ht : Tg prog w hb sc tgt bind) (hsw : ∀ env : Env, env.scope = sc → swapsWithSole [tgt] e pos.line env = pure false := by intro _ _; rfl)
    (hw : ∀ env : Env, swappedStores [tgt] e env = pure none := by intro _; rfl) (he : ∀ env : Env, (assignEach [tgt] env).map (·.2) = [PySem.assign tgt env] := by intro _; rfl) :
    S1 prog w hb n sc (.Assign [tgt] e pos) (fun ρ => (m ρ).bind fun v => (bind v ρ).map .next) := by
  intro A env s₀ X C ρ O s r Q E hs hA I hm hQ
  obtain ⟨v, hv, hm⟩ := Option.bind_eq_some_iff.mp hm
  obtain ⟨ρ', hb', rfl⟩ := Option.map_eq_some_iff.mp hm
  refine wpAny_Assign_stores (h hs hA I.toInF hv fun u s₁ k₁ r₁ => ?_) (hsw env hs) (hw env)
  rw [he]
  exact ht hs hA.handled (I.grow k₁) r₁ hb' fun s' I' T => hQ O s' I' ((Step.of_grow (keeps_grow k₁)).trans T)
/-! ## a dict's display: texts as keys, flat values -/
inductive RPs (prog : Program) (w : World) (s₀ : Heap) (W : List Addr) (h : Heap) : List (Value × Value) → List (Str × V) → Prop
  | nil : RPs prog w s₀ W h [] []
  | cons {x : Str} {t : Tok} {u : Value} {v : V} {us : List (Value × Value)} {vs : List (Str × V)} : wf (.str x) = true → Rep prog w s₀ W h u v → RPs prog w s₀ W h us vs → RPs prog w s₀ W h ((.str x t, u) :: us) ((x, v) :: vs)
noncomputable def Prs (prog : Program) (w : World) (hb : Heap) (n : Nat) (sc : Scope) (ks : List (Option Expr)) (es : List Expr) (m : Rho → Option (List (Str × V))) : Prop :=
  ∀ ⦃A : Around⦄ ⦃env : Env⦄ ⦃s₀ : Shared⦄ ⦃X C : List Addr⦄ ⦃ρ : Rho⦄ ⦃O : List (String × List Addr)⦄ ⦃s : Shared⦄ ⦃r : List (Str × V)⦄ ⦃pos : Pos⦄ ⦃Q : List (Value × Value) → Shared → Prop⦄ ⦃E : Value → Shared → Prop⦄,
    env.scope = sc → RoomF A n → InF prog w hb s₀ X env C ρ O s → m ρ = some r → (∀ us s', Keeps s s' → RPs prog w s₀.heap (WW env C O) s'.heap us r → Q us s') → wpAny (model prog w) A (evalPairs (pairTrees ks es env pos)) Q E s
theorem Prs.nil : Prs prog w hb n sc [] [] (fun _ => some []) := by
  intro A env s₀ X C ρ O s r pos Q E hs hA I hm hQ
  cases hm
  exact pairTrees_nil_walk (hQ [] s (keeps_refl s) .nil)
theorem Prs.cons {x : String} {k : Nat} {kp : Pos} {e : Expr} {ks : List (Option Expr)} {es : List Expr} {m : Rho → Option V} {ms : Rho → Option (List (Str × V))} (h : Ev prog w hb n sc e m) (hr : Prs prog w hb n sc ks es ms) (hx : wf (.str (Str.ofString x)) = true := by decide +kernel) :
    Prs prog w hb n sc (some (.Constant (.str (Str.ofString x)) k kp) :: ks) (e :: es) (fun ρ => do let a ← m ρ; let r ← ms ρ; some ((Str.ofString x, a) :: r)) := by
  intro A env s₀ X C ρ O s r pos Q E hs hA I hm hQ
  obtain ⟨a, ha, hm⟩ := bind_some hm
  obtain ⟨as, has, hm⟩ := bind_some hm
  cases hm
  refine pairTrees_cons_walk (wpAny_Constant_str ?_)
  have k₀ := keeps_toks s (s.toks + 1)
  refine h hs hA (I.grow k₀) ha fun u s₁ k₁ r₁ => hr hs hA ((I.grow k₀).grow k₁) has fun us s₂ k₂ r₂ => ?_
  exact hQ _ _ (keeps_trans k₀ (keeps_trans k₁ k₂)) (.cons hx (r₁.grow (keeps_grow k₂)) r₂)
theorem RPs.str {s₀ : Heap} {W : List Addr} {h : Heap} {us : List (Value × Value)} {vs : List (Str × V)} (r : RPs prog w s₀ W h us vs) : allStrKeys us = true ∧ (strPairs us).map (·.1) = vs.map (·.1) := by
  induction r with
  | nil => exact ⟨rfl, rfl⟩
  | cons _ _ _ ih => exact ⟨ih.1, by simp only [strPairs, List.map_cons, ih.2]⟩
theorem RPs.rds {s₀ : Heap} {W : List Addr} {h : Heap} {us : List (Value × Value)} {vs : List (Str × V)} (r : RPs prog w s₀ W h us vs) (hf : flats (vs.map (·.2.x)) = true) :
    RDs prog w h ((strPairs us).map (·.2)) (vs.map (·.2.x)) [] ∧ (∀ p ∈ vs, wf (.str p.1) = true ∧ wf p.2.x = true) := by
  induction r with
  | nil => exact ⟨.nil, fun _ q => nomatch q⟩
  | cons a b _ ih =>
    simp only [List.map_cons, flats, Bool.and_eq_true] at hf
    obtain ⟨as, rd, c, _⟩ := b
    have := rd.flat_foot hf.1
    subst this
    refine ⟨.cons (as := []) rd (ih hf.2).1, fun p hp => ?_⟩
    rcases List.mem_cons.mp hp with rfl | hp
    · exact ⟨a, c⟩
    · exact (ih hf.2).2 p hp
noncomputable def dictV (r : List (Str × V)) : Option V := if (r.map (·.1)).Nodup ∧ flats (r.map (·.2.x)) = true ∧ r.length ≤ sizeLine then some ⟨dictOf (r.map fun p => (p.1, p.2.x)), .d⟩ else none
theorem Ev.dict {keys : List (Option Expr)} {values : List Expr} {pos : Pos} {m : Rho → Option (List (Str × V))} (h : Prs prog w hb n sc keys values m) (hall : keys.all (·.isSome) = true := by rfl) (hl : keys.length = values.length := by rfl) (h0 : keys ≠ [] := by intro h; cases h)
    (hlen : keys.length ≤ 15 := by decide) : Ev prog w hb n sc (.Dict keys values pos) (fun ρ => (m ρ).bind dictV) := by
  intro A env s₀ X C ρ O s v Q E hs hA I hm hQ
  obtain ⟨r, hr, hm⟩ := Option.bind_eq_some_iff.mp hm
  unfold dictV at hm
  split at hm
  · rename_i hc
    cases hm
    refine wpAny_Dict_walk (knd := strKind prog w) hall hl h0 hlen ?_
    have k₀ := keeps_push s { cls := .type "dict", data := .dict #[] }
    refine h hs hA (I.grow k₀) hr fun us s₁ k₁ r₁ => ?_
    obtain ⟨q1, q2⟩ := r₁.str
    obtain ⟨q3, q4⟩ := r₁.rds hc.2.1
    have hz := I.size_fresh
    have hmod : (s.heap.objs.size == sysModules) = false := by
      rw [beq_eq_false_iff_ne]
      intro e
      obtain ⟨o, ho⟩ := I.base.mods
      have := I.base.grow _ _ ho
      rw [← e, get?_size_none _ (Nat.le_refl _)] at this
      cases this
    have hd : s₁.heap.DictOf (strKind prog w) s.heap.objs.size [] := (Heap.DictOf.new s.heap).keep (keeps_grow k₁)
    refine ⟨strPairs us, carries_strPairs prog w us q1, hd, fun h' hm' hs' => ?_⟩
    rw [merged_nil_of_nodup _ (by rw [q2]; exact hc.1)] at hm'
    have g : Grow s.heap h' := fun b o e => by
      have hne : b ≠ s.heap.objs.size := fun e' => by rw [e', get?_size_none _ (Nat.le_refl _)] at e; cases e
      rw [hs'.2 b hne]
      exact keeps_grow k₁ _ _ (Grow.push _ _ _ _ e)
    have of : Off [s.heap.objs.size] s₁.heap h' := by
      intro b o e hb'
      have hne : b ≠ s.heap.objs.size := by
        rcases hb' with hb' | ⟨vs, kk, rfl⟩
        · exact fun e' => hb' (by rw [e']; exact .head _)
        · intro e'
          obtain ⟨o', es, ep, ho', hx, _⟩ := hd
          rw [e', ho'] at e
          cases e
          have := hx.1
          simp at this
      rw [hs'.2 b hne]; exact e
    obtain ⟨h1, t1, e1, _⟩ := keeps_trans k₀ k₁
    refine hQ _ _ ⟨h', _, by rw [e1], g⟩ ⟨[s.heap.objs.size], .dict hm' hmod (by rw [q2, List.map_map]; rfl) ?_, wf_dictOf.mpr ⟨by simpa using hc.2.2, fun p hp => ?_⟩, fun a ha => ?_⟩
    · have := q3.off of (fun _ q => nomatch q)
      rw [List.map_map]; exact this
    · obtain ⟨q, hq, rfl⟩ := List.mem_map.mp hp
      exact q4 q hq
    · rw [List.mem_singleton.mp ha]; exact hz
  · cases hm
/-! ## a part of a tuple -/
noncomputable def aSliceT (lo hi : Option Int) (a : V) : Option V := match a.x, lo, hi with
  | .tuple (x :: xs), some l, some h => if 1 ≤ l ∧ l ≤ h then some (V.fix (.tuple (((x :: xs).take h.toNat).drop l.toNat)) a.fl) else none
  | _, _, _ => none
theorem adjust_nat (a b n : Nat) : Builtin.Slice.sliceAdjust (some (a : Int)) (some (b : Int)) 1 ((n : Nat) : Int) = (((min a n : Nat) : Int), ((min b n : Nat) : Int)) := by
  unfold Builtin.Slice.sliceAdjust
  simp only [show ¬ ((1 : Int) < 0) by decide, show ¬ ((a : Int) < 0) from Int.not_lt.mpr (Int.natCast_nonneg a), show ¬ ((b : Int) < 0) from Int.not_lt.mpr (Int.natCast_nonneg b), if_false]
  rw [show min (a : Int) (n : Int) = ((min a n : Nat) : Int) by omega, show min (b : Int) (n : Int) = ((min b n : Nat) : Int) by omega]
theorem places_nat (a b : Nat) : Builtin.Slice.slicePlaces (a : Int) (b : Int) 1 = b - a := by
  unfold Builtin.Slice.slicePlaces
  simp only [show (1 : Int) > 0 by decide, if_true, Int.ediv_one]
  split <;> omega
theorem take_drop_min {α : Type} (vs : List α) (a b : Nat) : (vs.take (min b vs.length)).drop (min a vs.length) = (vs.take b).drop a := by
  by_cases hb : b ≤ vs.length
  · rw [Nat.min_eq_left hb]
    by_cases ha : a ≤ vs.length
    · rw [Nat.min_eq_left ha]
    · rw [List.drop_eq_nil_of_le (by rw [Nat.min_eq_right (Nat.le_of_not_le ha), List.length_take]; exact Nat.min_le_right _ _), List.drop_eq_nil_of_le (by simp; omega)]
  · rw [Nat.min_eq_right (Nat.le_of_not_le hb), List.take_length, List.take_of_length_le (Nat.le_of_not_le hb)]
    by_cases ha : a ≤ vs.length
    · rw [Nat.min_eq_left ha]
    · rw [Nat.min_eq_right (Nat.le_of_not_le ha), List.drop_length, List.drop_eq_nil_of_le (Nat.le_of_not_le ha)]
theorem getItem_tuple_part {A : Around} {E : Value → Shared → Prop} {s : Shared} {t sl : Addr} {vs : List Value} {a b : Nat} {u u' : Tok} {Q : Value → Shared → Prop} (ht : PyProof.Rows.IsTup s.heap t vs.toArray) (hs : s.heap.IsSliceOf sl (.int a u) (.int b u') .none) (h1 : 1 ≤ a) (hab : a ≤ b) (h0 : 0 < vs.length)
    (h : Q (.ref s.heap.objs.size) { s with heap := s.heap.push { cls := .type "tuple", data := .seq ((vs.take b).drop a).toArray } })
    (hsz : vs.length ≤ sizeLine) : wpAny (model prog w) A (getItem (.ref t) (.ref sl)) Q E s := by
  have hdrop : sizeOk (.seq ((vs.take b).drop a).toArray) := by
    show ((vs.take b).drop a).toArray.size ≤ sizeLine
    rw [List.size_toArray, List.length_drop, List.length_take]
    omega
  obtain ⟨os, hos, hcs, hds⟩ := id hs
  have hTs : s.TypeIs (.ref sl) "slice" := ⟨os, hos, hcs⟩
  unfold getItem
  try with_reducible refine wpAny_holding ?_
  first | refine wpAny_bind (wpAny_pure ?_) | skip
  refine wpAny_bind (wpAny_sequenceKey ht.typeIs (by decide) ?_)
  refine wpAny_bind (wpAny_callSpecial?_slot (name := Str.ofString "__getitem__") ht.typeIs PyProof.Rows.slot_tuple_getitem
    (wpAny_call_entry PyProof.Rows.slot_tuple_getitem ht.typeIs PyProof.Rows.entry_tuple_getitem ?_ (PyProof.Rows.args_tuple_getitem _ _)))
  show wpAny _ _ (Builtin.Tuple.tupleItemsOf (.ref t) >>= _) _ _ s
  refine wpAny_bind (PyProof.Rows.tupleItemsOf_ ht ?_)
  refine wpAny_bind (wpAny_typeOf hTs ?_)
  rw [if_pos (by decide)]
  have happ : ∀ {Q : Int × Int × Nat → Shared → Prop}, Q (((min a vs.length : Nat) : Int), 1, min b vs.length - min a vs.length) s → wpAny (model prog w) A.in1 (Builtin.Slice.sliceApplied (.ref sl) (pure ((vs.toArray.size : Nat) : Int))) Q E s := by
    intro Q h
    unfold Builtin.Slice.sliceApplied Builtin.Slice.sliceFields
    refine wpAny_bind (wpAny_bind (wpAny_field hos hds (x := .int a u) rfl (wpAny_bind (wpAny_field hos hds (x := .int b u') rfl (wpAny_bind (wpAny_field hos hds (x := .none) rfl (wpAny_pure ?_)))))))
    refine wpAny_bind (PyProof.Rows.slicePart_none ?_)
    show wpAny _ _ (if ((1 : Int) == 0) = true then _ else _) _ _ s
    rw [if_neg (by decide)]
    refine wpAny_bind (PyProof.Rows.slicePart_int (wpAny_bind (PyProof.Rows.slicePart_int (wpAny_bind (wpAny_pure ?_)))))
    have e1 : Builtin.Slice.sliceAdjust (some (a : Int)) (some (b : Int)) 1 ((vs.toArray.size : Nat) : Int) = (((min a vs.length : Nat) : Int), ((min b vs.length : Nat) : Int)) := adjust_nat a b _
    have e2 : Builtin.Slice.slicePlaces ((min a vs.length : Nat) : Int) ((min b vs.length : Nat) : Int) 1 = min b vs.length - min a vs.length := places_nat _ _
    show wpAny _ _ (match Builtin.Slice.sliceAdjust (some (a : Int)) (some (b : Int)) 1 ((vs.toArray.size : Nat) : Int) with | (lo, hi) => pure (lo, (1 : Int), Builtin.Slice.slicePlaces lo hi 1)) _ _ s
    rw [e1]
    show wpAny _ _ (pure (((min a vs.length : Nat) : Int), (1 : Int), Builtin.Slice.slicePlaces ((min a vs.length : Nat) : Int) ((min b vs.length : Nat) : Int) 1)) _ _ s
    rw [e2]
    exact wpAny_pure h
  refine wpAny_bind (happ ?_)
  have hno : ¬ ((((min a vs.length : Nat) : Int) == 0 && (1 : Int) == 1 && (min b vs.length - min a vs.length) == vs.toArray.size) = true) := by
    have : (((min a vs.length : Nat) : Int) == 0) = false := by rw [beq_eq_false_iff_ne]; omega
    rw [this]; simp
  show wpAny _ _ (if (((min a vs.length : Nat) : Int) == 0 && (1 : Int) == 1 && (min b vs.length - min a vs.length) == vs.toArray.size) = true then _ else _) _ _ s
  have hpick : ((List.range (min b vs.length - min a vs.length)).filterMap fun (k : Nat) => vs.toArray[(((min a vs.length : Nat) : Int) + (k : Int) * 1).toNat]?).toArray = ((vs.take b).drop a).toArray := by
    have e : (fun (k : Nat) => vs.toArray[(((min a vs.length : Nat) : Int) + (k : Int) * 1).toNat]?) = (fun i => vs[i]?) ∘ fun k => min a vs.length + k := by
      funext k
      have : (((min a vs.length : Nat) : Int) + (k : Int) * 1).toNat = min a vs.length + k := by omega
      rw [this]; simp
    rw [e, ← List.filterMap_map, pick_range vs (min a vs.length) (min b vs.length) (by omega)]
    rw [take_drop_min]
  rw [if_neg hno, hpick]
  first
    | exact wpAny_bind (m := Builtin.Tuple.tupleExact _) (wpAny_newObj_type (wpAny_pure ⟨_, rfl, wpAny_pure h⟩) hdrop)
    | exact wpAny_bind (m := Builtin.Tuple.tupleExact _) (wpAny_newObj_type (wpAny_bind (wpAny_pure (wpAny_pure ⟨_, rfl, wpAny_pure h⟩))) hdrop)
    | exact wpAny_bind (wpAny_bind (m := Builtin.Tuple.tupleExact _) (wpAny_newObj_type (wpAny_pure (wpAny_pure ⟨_, rfl, wpAny_pure h⟩)) hdrop))
    | exact wpAny_bind (wpAny_bind (m := Builtin.Tuple.tupleExact _) (wpAny_newObj_type (wpAny_pure ⟨_, rfl, wpAny_pure h⟩) hdrop))
theorem aSliceT_some {lo hi : Option Int} {a v : V} (h : aSliceT lo hi a = some v) : ∃ x xs i j, a.x = .tuple (x :: xs) ∧ lo = some i ∧ hi = some j ∧ 1 ≤ i ∧ i ≤ j ∧ v = V.fix (.tuple (((x :: xs).take j.toNat).drop i.toNat)) a.fl := by
  obtain ⟨ax, af⟩ := a
  cases ax with
  | tuple ys => cases ys with
    | nil => cases h
    | cons x xs => cases lo with
      | none => cases h
      | some i => cases hi with
        | none => cases h
        | some j =>
          change (if 1 ≤ i ∧ i ≤ j then some (V.fix (.tuple (((x :: xs).take j.toNat).drop i.toNat)) af) else none) = some v at h
          split at h
          · rename_i hc
            exact ⟨x, xs, i, j, rfl, rfl, rfl, hc.1, hc.2, (Option.some.inj h).symm⟩
          · cases h
  | _ => cases h
theorem part_some {p : Option (Int × Tok)} {i : Int} (h : p.map (·.1) = some i) : ∃ t, p = some (i, t) := by
  obtain ⟨⟨j, t⟩, rfl, rfl⟩ := Option.map_eq_some_iff.mp h
  exact ⟨t, rfl⟩
theorem RDs.slice {h : Heap} {vs : List Value} {xs : List PyData} {as : List Addr} (r : RDs prog w h vs xs as) (a b : Nat) : ∃ bs, RDs prog w h ((vs.take b).drop a) ((xs.take b).drop a) bs ∧ ∀ c ∈ bs, c ∈ as := by
  obtain ⟨bs, q, hq⟩ := r.part ((List.range (min b vs.length - min a vs.length)).map fun k => min a vs.length + k)
  rw [pick_range vs _ _ (Nat.min_le_right _ _), take_drop_min] at q
  rw [show vs.length = xs.length from r.length, pick_range xs _ _ (Nat.min_le_right _ _), take_drop_min] at q
  exact ⟨bs, q, hq⟩
theorem wf_slice {xs : List PyData} {a b : Nat} (h : wf (.tuple xs) = true) : wf (.tuple ((xs.take b).drop a)) = true := by
  rw [wf_tuple] at *
  refine ⟨Nat.le_trans ?_ h.1, ?_⟩
  · rw [List.length_drop, List.length_take]; exact Nat.le_trans (Nat.sub_le _ _) (Nat.min_le_right _ _)
  · have h2 := (wfs_iff _).mp h.2
    exact (wfs_iff _).mpr fun y hy => h2 y (List.mem_of_mem_take (List.mem_of_mem_drop hy))
theorem Ev.sliceT {e : Expr} {lo hi : Option Expr} {p pos : Pos} {m : Rho → Option V} {ml mh : Rho → Option (Option Int)} (h : Ev prog w hb n sc e m) (hl : Pt prog w hb n sc lo ml) (hh : Pt prog w hb n sc hi mh)
    (hs' : ∀ o j, ∃ ops, subscripted (.Slice lo hi none p) false o j = operate ops (getItem o j) := by intro _ _; exact ⟨_, rfl⟩) :
    Ev prog w hb n sc (.Subscript e (.Slice lo hi none p) pos) (fun ρ => do let a ← m ρ; let l ← ml ρ; let u ← mh ρ; aSliceT l u a) := by
  intro A env s₀ X C ρ O s v Q E hs hA I hm hQ
  obtain ⟨a, ha, hm⟩ := bind_some hm
  obtain ⟨l, hl', hm⟩ := bind_some hm
  obtain ⟨u, hu', hm⟩ := bind_some hm
  obtain ⟨x, xs, i, j, e1, rfl, rfl, hi1, hij, rfl⟩ := aSliceT_some hm
  refine PyProof.Rows.Subscript_ (h hs hA I ha fun v₁ s₁ k₁ r₁ => wpAny_Slice (hl hs hA (I.grow k₁) hl' fun p₂ s₂ k₂ e₂ => hh hs hA ((I.grow k₁).grow k₂) hu' fun p₃ s₃ k₃ e₃ => Pt.no hs hA (((I.grow k₁).grow k₂).grow k₃) rfl fun p₄ s₄ k₄ e₄ => ?_))
  obtain ⟨t2, rfl⟩ := part_some e₂
  obtain ⟨t3, rfl⟩ := part_some e₃
  cases p₄ with
  | some p₄ => cases e₄
  | none =>
  have kk := keeps_trans k₁ (keeps_trans k₂ (keeps_trans k₃ (keeps_trans k₄ (keeps_push s₄ { cls := .type "slice", data := .fields #[.int i t2, .int j t3, .none] }))))
  have kk' := keeps_trans k₂ (keeps_trans k₃ (keeps_trans k₄ (keeps_push s₄ { cls := .type "slice", data := .fields #[.int i t2, .int j t3, .none] })))
  obtain ⟨ops, e⟩ := hs' v₁ (.ref s₄.heap.objs.size)
  obtain ⟨as, ra, ca, oa⟩ := r₁.grow (keeps_grow kk')
  clear k₁ k₂ k₃ k₄ kk' e₂ e₃ e₄ hl' hu' ha hm r₁ hl hh h hs'
  rw [e1] at ra ca
  obtain ⟨ad, vs, kd, rfl, a1, a2⟩ := ra.tuple_inv
  obtain ⟨i, rfl⟩ := Int.eq_ofNat_of_zero_le (show 0 ≤ i by omega)
  obtain ⟨j, rfl⟩ := Int.eq_ofNat_of_zero_le (show 0 ≤ j by omega)
  have hlv := a2.length
  refine PyProof.Rows.tail_any (T := "tuple") ⟨_, a1, rfl⟩ PyProof.Rows.slot_tuple_getitem.lookup (getItem_tuple_part (vs := vs) (a := i) (b := j) (u := t2) (u' := t3) ⟨_, a1, rfl, _, rfl⟩ ⟨_, Heap.get?_push_size _ rfl, rfl, rfl⟩ (by omega) (by omega) (by rw [hlv]; exact Nat.succ_pos _) ?_ (by rw [hlv]; exact (wf_tuple.mp ca).1)) e
  obtain ⟨bs, q, hq⟩ := a2.slice i j
  exact hQ _ _ (keeps_trans kk (keeps_push _ _)) ((I.grow kk).newT q (wf_slice ca) (oa.mono hq))
end Mine

/-! text F08_at -/
set_option autoImplicit false
set_option maxRecDepth 100000
set_option maxHeartbeats 4000000
set_option linter.unusedSimpArgs false
set_option linter.unusedVariables false

namespace Mine
open PySem PySem.Calls
noncomputable abbrev pw : Program := PySem.Challenge.pw_uf010022_08
variable {w : World} {hb : Heap}
noncomputable def intsP (l : List Int) : List PyData := l.map .int
noncomputable def sAt (l : List Int) (k : Int) : Int := (l[k.toNat]?).getD 0
theorem ints_length (l : List Int) : (intsP l).length = l.length := by simp [intsP]
theorem at_ok (B : Bui hb) (D : DefAt hb "_law_at" (fnS pw 8) ["_law_script", "_law_k"] (fnB pw 8)) :
    ∃ m, DefG pw w hb 2 "_law_at" m ∧ ∀ (l : List Int) (k : Int), 0 ≤ k → m [.list (intsP l), .int k] = some (.int (sAt l k)) := by
  refine ⟨_, DefG.of D (n := 1) (St.cons (S1.if (Tr.cmp Ev.v (Ev.len B (Evs.cons Ev.v Evs.nil))) (St.cons (S1.ret (Ev.idx Ev.v Ev.v))
      St.nil) St.nil)
    (St.cons (S1.ret Ev.cint)
    St.nil)) _ (fun _ _ h => h), ?_⟩
  intro l k hk
  refine fn_ret rfl ?_
  by_cases h : k < l.length
  · have e : seqAt (intsP l) k = some (.int (sAt l k)) := by
      rw [seqAt_nat hk]; unfold intsP sAt
      rw [List.getElem?_map, List.getElem?_eq_getElem (by omega)]; rfl
    refine seqRet (ifR_yes (by simp only [run_eq, tst_eq, evl_eq, itr_eq, e_add, e_sub, e_mul_l, e_mul_r, e_div, e_mod, e_adds, e_addl, e_set, e_rho_nil, e_rho, e_fint, e_fstr, e_fnone, e_fbool, e_flist, e_ftup, e_rv, e_rl, e_rd, e_putd, e_puts, e_putRd, e_putRs, e_tup, e_putn, e_putc, e_thn, e_thr, e_lt, e_le, e_gt, e_ge, e_eqi, e_nei, e_eqs, e_nes, e_is, e_isnot, e_len_l, e_len_t, e_len_s, e_tb, e_ti, e_tl, e_tn, e_inc, fix_d, fl_nil, fl_int, fl_str, fl_none, fl_bool, fl_tup, ofS_beq, String.reduceBEq, Bool.and_true, Bool.true_and, e_idx_s, e_idx_l, e_idx_t, e_sls, e_sll, hi_none, lo_none, le_line, le_lineI, rng_lo, fls_nil, fls_d, newL_d, fixT_d, S_length, Option.bind_eq_bind, Option.bind_some, Option.map_some, Option.bind_none, Option.map_none, if_true, if_false, Bool.false_eq_true, decide_eq_true_eq, List.map_cons, List.map_nil, List.length_cons, List.length_nil, and_self, and_true, true_and, true_or, or_true, not_true, not_false, List.mem_cons, List.not_mem_nil, or_false, false_or, or_self, String.reduceEq, reduceIte, ne_eq, Int.reduceLT, Int.reduceLE, Nat.reduceAdd, Nat.reduceLeDiff, Int.reducePow, Int.reduceNeg, Int.reduceBEq, Int.reduceEq, Int.reduceToNat, Int.reduceAdd, Int.reduceSub, Int.reduceMul, reduceCtorEq, Bool.not_true, Bool.not_false, Bool.not_eq_true, ints_length, decide_eq_true h]) (seqRet ?_))
    simp only [run_eq, tst_eq, evl_eq, itr_eq, e_add, e_sub, e_mul_l, e_mul_r, e_div, e_mod, e_adds, e_addl, e_set, e_rho_nil, e_rho, e_fint, e_fstr, e_fnone, e_fbool, e_flist, e_ftup, e_rv, e_rl, e_rd, e_putd, e_puts, e_putRd, e_putRs, e_tup, e_putn, e_putc, e_thn, e_thr, e_lt, e_le, e_gt, e_ge, e_eqi, e_nei, e_eqs, e_nes, e_is, e_isnot, e_len_l, e_len_t, e_len_s, e_tb, e_ti, e_tl, e_tn, e_inc, fix_d, fl_nil, fl_int, fl_str, fl_none, fl_bool, fl_tup, ofS_beq, String.reduceBEq, Bool.and_true, Bool.true_and, e_idx_s, e_idx_l, e_idx_t, e_sls, e_sll, hi_none, lo_none, le_line, le_lineI, rng_lo, fls_nil, fls_d, newL_d, fixT_d, S_length, Option.bind_eq_bind, Option.bind_some, Option.map_some, Option.bind_none, Option.map_none, if_true, if_false, Bool.false_eq_true, decide_eq_true_eq, List.map_cons, List.map_nil, List.length_cons, List.length_nil, and_self, and_true, true_and, true_or, or_true, not_true, not_false, List.mem_cons, List.not_mem_nil, or_false, false_or, or_self, String.reduceEq, reduceIte, ne_eq, Int.reduceLT, Int.reduceLE, Nat.reduceAdd, Nat.reduceLeDiff, Int.reducePow, Int.reduceNeg, Int.reduceBEq, Int.reduceEq, Int.reduceToNat, Int.reduceAdd, Int.reduceSub, Int.reduceMul, reduceCtorEq, Bool.not_true, Bool.not_false, Bool.not_eq_true, e]
  · have e : sAt l k = 0 := by
      unfold sAt; rw [List.getElem?_eq_none (by omega)]; rfl
    refine seq (ifR_no (by simp only [run_eq, tst_eq, evl_eq, itr_eq, e_add, e_sub, e_mul_l, e_mul_r, e_div, e_mod, e_adds, e_addl, e_set, e_rho_nil, e_rho, e_fint, e_fstr, e_fnone, e_fbool, e_flist, e_ftup, e_rv, e_rl, e_rd, e_putd, e_puts, e_putRd, e_putRs, e_tup, e_putn, e_putc, e_thn, e_thr, e_lt, e_le, e_gt, e_ge, e_eqi, e_nei, e_eqs, e_nes, e_is, e_isnot, e_len_l, e_len_t, e_len_s, e_tb, e_ti, e_tl, e_tn, e_inc, fix_d, fl_nil, fl_int, fl_str, fl_none, fl_bool, fl_tup, ofS_beq, String.reduceBEq, Bool.and_true, Bool.true_and, e_idx_s, e_idx_l, e_idx_t, e_sls, e_sll, hi_none, lo_none, le_line, le_lineI, rng_lo, fls_nil, fls_d, newL_d, fixT_d, S_length, Option.bind_eq_bind, Option.bind_some, Option.map_some, Option.bind_none, Option.map_none, if_true, if_false, Bool.false_eq_true, decide_eq_true_eq, List.map_cons, List.map_nil, List.length_cons, List.length_nil, and_self, and_true, true_and, true_or, or_true, not_true, not_false, List.mem_cons, List.not_mem_nil, or_false, false_or, or_self, String.reduceEq, reduceIte, ne_eq, Int.reduceLT, Int.reduceLE, Nat.reduceAdd, Nat.reduceLeDiff, Int.reducePow, Int.reduceNeg, Int.reduceBEq, Int.reduceEq, Int.reduceToNat, Int.reduceAdd, Int.reduceSub, Int.reduceMul, reduceCtorEq, Bool.not_true, Bool.not_false, Bool.not_eq_true, ints_length, decide_eq_false h]) rfl) (seqRet ?_)
    simp only [run_eq, tst_eq, evl_eq, itr_eq, e_add, e_sub, e_mul_l, e_mul_r, e_div, e_mod, e_adds, e_addl, e_set, e_rho_nil, e_rho, e_fint, e_fstr, e_fnone, e_fbool, e_flist, e_ftup, e_rv, e_rl, e_rd, e_putd, e_puts, e_putRd, e_putRs, e_tup, e_putn, e_putc, e_thn, e_thr, e_lt, e_le, e_gt, e_ge, e_eqi, e_nei, e_eqs, e_nes, e_is, e_isnot, e_len_l, e_len_t, e_len_s, e_tb, e_ti, e_tl, e_tn, e_inc, fix_d, fl_nil, fl_int, fl_str, fl_none, fl_bool, fl_tup, ofS_beq, String.reduceBEq, Bool.and_true, Bool.true_and, e_idx_s, e_idx_l, e_idx_t, e_sls, e_sll, hi_none, lo_none, le_line, le_lineI, rng_lo, fls_nil, fls_d, newL_d, fixT_d, S_length, Option.bind_eq_bind, Option.bind_some, Option.map_some, Option.bind_none, Option.map_none, if_true, if_false, Bool.false_eq_true, decide_eq_true_eq, List.map_cons, List.map_nil, List.length_cons, List.length_nil, and_self, and_true, true_and, true_or, or_true, not_true, not_false, List.mem_cons, List.not_mem_nil, or_false, false_or, or_self, String.reduceEq, reduceIte, ne_eq, Int.reduceLT, Int.reduceLE, Nat.reduceAdd, Nat.reduceLeDiff, Int.reducePow, Int.reduceNeg, Int.reduceBEq, Int.reduceEq, Int.reduceToNat, Int.reduceAdd, Int.reduceSub, Int.reduceMul, reduceCtorEq, Bool.not_true, Bool.not_false, Bool.not_eq_true, e]
end Mine

/-! text F08_called -/
set_option autoImplicit false
set_option maxRecDepth 100000
set_option maxHeartbeats 4000000
set_option linter.unusedSimpArgs false
set_option linter.unusedVariables false

namespace Mine
open PySem PySem.Calls
variable {w : World} {hb : Heap}
noncomputable def turnS (c k : Int) : Int := c + 31 * k * (c % 2)
noncomputable def sizeS (c k : Int) (n : Nat) : Int := turnS c k / 26 % (9 - n)
noncomputable def tailS (c k : Int) (n : Nat) : List Nat := (List.range (sizeS c k n).toNat).map fun (j : Nat) => 97 + ((turnS c k + 5 * (j : Int) * (1 + turnS c k % 3)) % 26).toNat
noncomputable def cutS (c k : Int) (n : Nat) : Int := if c % 2 = 0 then c / 4 % (sizeS c k n + 1) else sizeS c k n
noncomputable def calledS (c k : Int) (s : List Nat) : List Nat := (tailS c k s.length).take (cutS c k s.length).toNat ++ s ++ (tailS c k s.length).drop (cutS c k s.length).toNat
theorem called_ok (B : Bui hb) (D : DefAt hb "_law_called" (fnS pw 9) ["_law_cell", "_law_k", "_law_signs"] (fnB pw 9)) :
    ∃ m, DefG pw w hb 2 "_law_called" m ∧ ∀ (c k : Int) (s : List Nat), 0 ≤ k → 1 ≤ s.length → s.length ≤ 8 → m [.int c, .int k, .str (S s)] = some (.str (S (calledS c k s))) := by
  refine ⟨_, DefG.of D (n := 1) (St.cons (S1.assign Ev.s (by decide +kernel))
    (St.cons (S1.assign (Ev.bin Ev.v (Ev.bin (Ev.bin Ev.cint Ev.v) (Ev.bin Ev.v Ev.cint))) (by decide +kernel))
    (St.cons (S1.assign (Ev.bin (Ev.bin Ev.v Ev.cint) (Ev.bin Ev.cint (Ev.len B (Evs.cons Ev.v Evs.nil)))) (by decide +kernel))
    (St.cons (S1.assign (Ev.join (Ev.comp (locs := [".0", "_law_j"]) (by decide +kernel) (It.range (by decide +kernel) B.range Ev.v) (TgL.name (by decide +kernel) (by decide +kernel)) Ifs.nil (Ev.idx Ev.v (Ev.bin (Ev.bin Ev.v (Ev.bin (Ev.bin Ev.cint Ev.v) (Ev.bin Ev.cint (Ev.bin Ev.v Ev.cint)))) Ev.cint)))) (by decide +kernel))
    (St.cons (S1.assign Ev.v (by decide +kernel))
    (St.cons (S1.if (Tr.cmp (Ev.bin Ev.v Ev.cint) Ev.cint) (St.cons (S1.assign (Ev.bin (Ev.bin Ev.v Ev.cint) (Ev.bin Ev.v Ev.cint)) (by decide +kernel))
      St.nil) St.nil)
    (St.cons (S1.ret (Ev.bin (Ev.bin (Ev.slice Ev.v Pt.no (Pt.yes Ev.v) Pt.no) Ev.v) (Ev.slice Ev.v (Pt.yes Ev.v) Pt.no Pt.no)))
    St.nil))))))) _ (fun _ _ h => h), ?_⟩
  intro c k s hk h1 h2
  refine fn_ret rfl ?_
  have hn : (0 : Int) < 9 - (s.length : Nat) := by omega
  have hz : 0 ≤ sizeS c k s.length ∧ sizeS c k s.length < 9 := ⟨Int.emod_nonneg _ (by omega), by have := Int.emod_lt_of_pos (turnS c k / 26) hn; unfold sizeS; omega⟩
  refine seq (by simp only [run_eq, tst_eq, evl_eq, itr_eq, e_add, e_sub, e_mul_l, e_mul_r, e_div, e_mod, e_adds, e_addl, e_set, e_rho_nil, e_rho, e_fint, e_fstr, e_fnone, e_fbool, e_flist, e_ftup, e_rv, e_rl, e_rd, e_putd, e_puts, e_putRd, e_putRs, e_tup, e_putn, e_putc, e_thn, e_thr, e_lt, e_le, e_gt, e_ge, e_eqi, e_nei, e_eqs, e_nes, e_is, e_isnot, e_len_l, e_len_t, e_len_s, e_tb, e_ti, e_tl, e_tn, e_inc, fix_d, fl_nil, fl_int, fl_str, fl_none, fl_bool, fl_tup, ofS_beq, String.reduceBEq, Bool.and_true, Bool.true_and, e_idx_s, e_idx_l, e_idx_t, e_sls, e_sll, hi_none, lo_none, le_line, le_lineI, rng_lo, fls_nil, fls_d, newL_d, fixT_d, S_length, Option.bind_eq_bind, Option.bind_some, Option.map_some, Option.bind_none, Option.map_none, if_true, if_false, Bool.false_eq_true, decide_eq_true_eq, List.map_cons, List.map_nil, List.length_cons, List.length_nil, and_self, and_true, true_and, true_or, or_true, not_true, not_false, List.mem_cons, List.not_mem_nil, or_false, false_or, or_self, String.reduceEq, reduceIte, ne_eq, Int.reduceLT, Int.reduceLE, Nat.reduceAdd, Nat.reduceLeDiff, Int.reducePow, Int.reduceNeg, Int.reduceBEq, Int.reduceEq, Int.reduceToNat, Int.reduceAdd, Int.reduceSub, Int.reduceMul, reduceCtorEq, Bool.not_true, Bool.not_false, Bool.not_eq_true, letters_eq]; rfl) ?_
  refine seq (by simp only [run_eq, tst_eq, evl_eq, itr_eq, e_add, e_sub, e_mul_l, e_mul_r, e_div, e_mod, e_adds, e_addl, e_set, e_rho_nil, e_rho, e_fint, e_fstr, e_fnone, e_fbool, e_flist, e_ftup, e_rv, e_rl, e_rd, e_putd, e_puts, e_putRd, e_putRs, e_tup, e_putn, e_putc, e_thn, e_thr, e_lt, e_le, e_gt, e_ge, e_eqi, e_nei, e_eqs, e_nes, e_is, e_isnot, e_len_l, e_len_t, e_len_s, e_tb, e_ti, e_tl, e_tn, e_inc, fix_d, fl_nil, fl_int, fl_str, fl_none, fl_bool, fl_tup, ofS_beq, String.reduceBEq, Bool.and_true, Bool.true_and, e_idx_s, e_idx_l, e_idx_t, e_sls, e_sll, hi_none, lo_none, le_line, le_lineI, rng_lo, fls_nil, fls_d, newL_d, fixT_d, S_length, Option.bind_eq_bind, Option.bind_some, Option.map_some, Option.bind_none, Option.map_none, if_true, if_false, Bool.false_eq_true, decide_eq_true_eq, List.map_cons, List.map_nil, List.length_cons, List.length_nil, and_self, and_true, true_and, true_or, or_true, not_true, not_false, List.mem_cons, List.not_mem_nil, or_false, false_or, or_self, String.reduceEq, reduceIte, ne_eq, Int.reduceLT, Int.reduceLE, Nat.reduceAdd, Nat.reduceLeDiff, Int.reducePow, Int.reduceNeg, Int.reduceBEq, Int.reduceEq, Int.reduceToNat, Int.reduceAdd, Int.reduceSub, Int.reduceMul, reduceCtorEq, Bool.not_true, Bool.not_false, Bool.not_eq_true, e_mul (.inr (show smallInt (c % 2) = true from small_of (by omega) (by omega))), show c + 31 * k * (c % 2) = turnS c k from rfl]; rfl) ?_
  refine seq (by simp only [run_eq, tst_eq, evl_eq, itr_eq, e_add, e_sub, e_mul_l, e_mul_r, e_div, e_mod, e_adds, e_addl, e_set, e_rho_nil, e_rho, e_fint, e_fstr, e_fnone, e_fbool, e_flist, e_ftup, e_rv, e_rl, e_rd, e_putd, e_puts, e_putRd, e_putRs, e_tup, e_putn, e_putc, e_thn, e_thr, e_lt, e_le, e_gt, e_ge, e_eqi, e_nei, e_eqs, e_nes, e_is, e_isnot, e_len_l, e_len_t, e_len_s, e_tb, e_ti, e_tl, e_tn, e_inc, fix_d, fl_nil, fl_int, fl_str, fl_none, fl_bool, fl_tup, ofS_beq, String.reduceBEq, Bool.and_true, Bool.true_and, e_idx_s, e_idx_l, e_idx_t, e_sls, e_sll, hi_none, lo_none, le_line, le_lineI, rng_lo, fls_nil, fls_d, newL_d, fixT_d, S_length, Option.bind_eq_bind, Option.bind_some, Option.map_some, Option.bind_none, Option.map_none, if_true, if_false, Bool.false_eq_true, decide_eq_true_eq, List.map_cons, List.map_nil, List.length_cons, List.length_nil, and_self, and_true, true_and, true_or, or_true, not_true, not_false, List.mem_cons, List.not_mem_nil, or_false, false_or, or_self, String.reduceEq, reduceIte, ne_eq, Int.reduceLT, Int.reduceLE, Nat.reduceAdd, Nat.reduceLeDiff, Int.reducePow, Int.reduceNeg, Int.reduceBEq, Int.reduceEq, Int.reduceToNat, Int.reduceAdd, Int.reduceSub, Int.reduceMul, reduceCtorEq, Bool.not_true, Bool.not_false, Bool.not_eq_true, e_mod hn, show turnS c k / 26 % (9 - (s.length : Int)) = sizeS c k s.length from rfl]; rfl) ?_
  have hj : aJoin (Str.ofString "") (List.map (fun j : Nat => PyData.str (S [97 + ((turnS c k + 5 * (j : Int) * (1 + turnS c k % 3)) % 26).toNat])) (List.range (sizeS c k s.length).toNat)) = some (.str (S (tailS c k s.length))) := by
    have e := join_ok (ts := (List.range (sizeS c k s.length).toNat).map fun j : Nat => [97 + ((turnS c k + 5 * (j : Int) * (1 + turnS c k % 3)) % 26).toNat]) (by rw [flat1]; simp; omega) (by simp; omega) (fun t ht x hx => by
      obtain ⟨j, _, rfl⟩ := List.mem_map.mp ht
      rw [List.mem_singleton.mp hx]; omega)
    rw [empty_eq]
    rw [List.map_map, flat1] at e
    exact e
  refine seq (by
    simp only [run_eq, tst_eq, evl_eq, itr_eq, e_add, e_sub, e_mul_l, e_mul_r, e_div, e_mod, e_adds, e_addl, e_set, e_rho_nil, e_rho, e_fint, e_fstr, e_fnone, e_fbool, e_flist, e_ftup, e_rv, e_rl, e_rd, e_putd, e_puts, e_putRd, e_putRs, e_tup, e_putn, e_putc, e_thn, e_thr, e_lt, e_le, e_gt, e_ge, e_eqi, e_nei, e_eqs, e_nes, e_is, e_isnot, e_len_l, e_len_t, e_len_s, e_tb, e_ti, e_tl, e_tn, e_inc, fix_d, fl_nil, fl_int, fl_str, fl_none, fl_bool, fl_tup, ofS_beq, String.reduceBEq, Bool.and_true, Bool.true_and, e_idx_s, e_idx_l, e_idx_t, e_sls, e_sll, hi_none, lo_none, le_line, le_lineI, rng_lo, fls_nil, fls_d, newL_d, fixT_d, S_length, Option.bind_eq_bind, Option.bind_some, Option.map_some, Option.bind_none, Option.map_none, if_true, if_false, Bool.false_eq_true, decide_eq_true_eq, List.map_cons, List.map_nil, List.length_cons, List.length_nil, and_self, and_true, true_and, true_or, or_true, not_true, not_false, List.mem_cons, List.not_mem_nil, or_false, false_or, or_self, String.reduceEq, reduceIte, ne_eq, Int.reduceLT, Int.reduceLE, Nat.reduceAdd, Nat.reduceLeDiff, Int.reducePow, Int.reduceNeg, Int.reduceBEq, Int.reduceEq, Int.reduceToNat, Int.reduceAdd, Int.reduceSub, Int.reduceMul, reduceCtorEq, Bool.not_true, Bool.not_false, Bool.not_eq_true, compV, le_lineI (show sizeS c k s.length ≤ 1000 by omega), rng_lo hz.1]
    rw [comp_range (fun j => .str (S [97 + ((turnS c k + 5 * (j : Int) * (1 + turnS c k % 3)) % 26).toNat])) (fun j hj => by
      simp only [run_eq, tst_eq, evl_eq, itr_eq, e_add, e_sub, e_mul_l, e_mul_r, e_div, e_mod, e_adds, e_addl, e_set, e_rho_nil, e_rho, e_fint, e_fstr, e_fnone, e_fbool, e_flist, e_ftup, e_rv, e_rl, e_rd, e_putd, e_puts, e_putRd, e_putRs, e_tup, e_putn, e_putc, e_thn, e_thr, e_lt, e_le, e_gt, e_ge, e_eqi, e_nei, e_eqs, e_nes, e_is, e_isnot, e_len_l, e_len_t, e_len_s, e_tb, e_ti, e_tl, e_tn, e_inc, fix_d, fl_nil, fl_int, fl_str, fl_none, fl_bool, fl_tup, ofS_beq, String.reduceBEq, Bool.and_true, Bool.true_and, e_idx_s, e_idx_l, e_idx_t, e_sls, e_sll, hi_none, lo_none, le_line, le_lineI, rng_lo, fls_nil, fls_d, newL_d, fixT_d, S_length, Option.bind_eq_bind, Option.bind_some, Option.map_some, Option.bind_none, Option.map_none, if_true, if_false, Bool.false_eq_true, decide_eq_true_eq, List.map_cons, List.map_nil, List.length_cons, List.length_nil, and_self, and_true, true_and, true_or, or_true, not_true, not_false, List.mem_cons, List.not_mem_nil, or_false, false_or, or_self, String.reduceEq, reduceIte, ne_eq, Int.reduceLT, Int.reduceLE, Nat.reduceAdd, Nat.reduceLeDiff, Int.reducePow, Int.reduceNeg, Int.reduceBEq, Int.reduceEq, Int.reduceToNat, Int.reduceAdd, Int.reduceSub, Int.reduceMul, reduceCtorEq, Bool.not_true, Bool.not_false, Bool.not_eq_true, cstep, e_mul (.inr (show smallInt (1 + turnS c k % 3) = true from small_of (by omega) (by omega))), letters_at (show 0 ≤ (turnS c k + 5 * (j : Int) * (1 + turnS c k % 3)) % 26 by omega) (show (turnS c k + 5 * (j : Int) * (1 + turnS c k % 3)) % 26 < 26 by omega)])]
    simp only [run_eq, tst_eq, evl_eq, itr_eq, e_add, e_sub, e_mul_l, e_mul_r, e_div, e_mod, e_adds, e_addl, e_set, e_rho_nil, e_rho, e_fint, e_fstr, e_fnone, e_fbool, e_flist, e_ftup, e_rv, e_rl, e_rd, e_putd, e_puts, e_putRd, e_putRs, e_tup, e_putn, e_putc, e_thn, e_thr, e_lt, e_le, e_gt, e_ge, e_eqi, e_nei, e_eqs, e_nes, e_is, e_isnot, e_len_l, e_len_t, e_len_s, e_tb, e_ti, e_tl, e_tn, e_inc, fix_d, fl_nil, fl_int, fl_str, fl_none, fl_bool, fl_tup, ofS_beq, String.reduceBEq, Bool.and_true, Bool.true_and, e_idx_s, e_idx_l, e_idx_t, e_sls, e_sll, hi_none, lo_none, le_line, le_lineI, rng_lo, fls_nil, fls_d, newL_d, fixT_d, S_length, Option.bind_eq_bind, Option.bind_some, Option.map_some, Option.bind_none, Option.map_none, if_true, if_false, Bool.false_eq_true, decide_eq_true_eq, List.map_cons, List.map_nil, List.length_cons, List.length_nil, and_self, and_true, true_and, true_or, or_true, not_true, not_false, List.mem_cons, List.not_mem_nil, or_false, false_or, or_self, String.reduceEq, reduceIte, ne_eq, Int.reduceLT, Int.reduceLE, Nat.reduceAdd, Nat.reduceLeDiff, Int.reducePow, Int.reduceNeg, Int.reduceBEq, Int.reduceEq, Int.reduceToNat, Int.reduceAdd, Int.reduceSub, Int.reduceMul, reduceCtorEq, Bool.not_true, Bool.not_false, Bool.not_eq_true, hj]
    rfl) ?_
  refine seq (by simp only [run_eq, tst_eq, evl_eq, itr_eq, e_add, e_sub, e_mul_l, e_mul_r, e_div, e_mod, e_adds, e_addl, e_set, e_rho_nil, e_rho, e_fint, e_fstr, e_fnone, e_fbool, e_flist, e_ftup, e_rv, e_rl, e_rd, e_putd, e_puts, e_putRd, e_putRs, e_tup, e_putn, e_putc, e_thn, e_thr, e_lt, e_le, e_gt, e_ge, e_eqi, e_nei, e_eqs, e_nes, e_is, e_isnot, e_len_l, e_len_t, e_len_s, e_tb, e_ti, e_tl, e_tn, e_inc, fix_d, fl_nil, fl_int, fl_str, fl_none, fl_bool, fl_tup, ofS_beq, String.reduceBEq, Bool.and_true, Bool.true_and, e_idx_s, e_idx_l, e_idx_t, e_sls, e_sll, hi_none, lo_none, le_line, le_lineI, rng_lo, fls_nil, fls_d, newL_d, fixT_d, S_length, Option.bind_eq_bind, Option.bind_some, Option.map_some, Option.bind_none, Option.map_none, if_true, if_false, Bool.false_eq_true, decide_eq_true_eq, List.map_cons, List.map_nil, List.length_cons, List.length_nil, and_self, and_true, true_and, true_or, or_true, not_true, not_false, List.mem_cons, List.not_mem_nil, or_false, false_or, or_self, String.reduceEq, reduceIte, ne_eq, Int.reduceLT, Int.reduceLE, Nat.reduceAdd, Nat.reduceLeDiff, Int.reducePow, Int.reduceNeg, Int.reduceBEq, Int.reduceEq, Int.reduceToNat, Int.reduceAdd, Int.reduceSub, Int.reduceMul, reduceCtorEq, Bool.not_true, Bool.not_false, Bool.not_eq_true]; rfl) ?_
  have hcut : 0 ≤ cutS c k s.length ∧ cutS c k s.length ≤ sizeS c k s.length := by
    unfold cutS; split
    · exact ⟨Int.emod_nonneg _ (by omega), by have := Int.emod_lt_of_pos (c / 4) (show 0 < sizeS c k s.length + 1 by omega); omega⟩
    · omega
  have hlen : ((tailS c k s.length).length : Int) = sizeS c k s.length := by simp [tailS]; omega
  have htl : (tailS c k s.length).length ≤ 8 := by omega
  have hd : calledS c k s = (tailS c k s.length).take (cutS c k s.length).toNat ++ s ++ (tailS c k s.length).drop (cutS c k s.length).toNat := rfl
  have e1 : clipHi (some (cutS c k s.length)) (tailS c k s.length).length = (cutS c k s.length).toNat := hi_some hcut.1 (by omega)
  have e2 : clipLo (some (cutS c k s.length)) (tailS c k s.length).length = (cutS c k s.length).toNat := lo_some hcut.1 (by omega)
  have e3 : aBinV .Add ⟨.str (S ((tailS c k s.length).take (cutS c k s.length).toNat)), .d⟩ ⟨.str (S s), .d⟩ = some ⟨.str (S ((tailS c k s.length).take (cutS c k s.length).toNat ++ s)), .d⟩ := e_addS (by simp; omega)
  have e4 : aBinV .Add ⟨.str (S ((tailS c k s.length).take (cutS c k s.length).toNat ++ s)), .d⟩ ⟨.str (S ((tailS c k s.length).drop (cutS c k s.length).toNat)), .d⟩ = some ⟨.str (S (calledS c k s)), .d⟩ := by
    rw [hd]; exact e_addS (by simp; omega)
  by_cases hc : c % 2 = 0
  · have ec : c / 4 % (sizeS c k s.length + 1) = cutS c k s.length := by unfold cutS; rw [if_pos hc]
    refine seq (by simp only [run_eq, tst_eq, evl_eq, itr_eq, e_add, e_sub, e_mul_l, e_mul_r, e_div, e_mod, e_adds, e_addl, e_set, e_rho_nil, e_rho, e_fint, e_fstr, e_fnone, e_fbool, e_flist, e_ftup, e_rv, e_rl, e_rd, e_putd, e_puts, e_putRd, e_putRs, e_tup, e_putn, e_putc, e_thn, e_thr, e_lt, e_le, e_gt, e_ge, e_eqi, e_nei, e_eqs, e_nes, e_is, e_isnot, e_len_l, e_len_t, e_len_s, e_tb, e_ti, e_tl, e_tn, e_inc, fix_d, fl_nil, fl_int, fl_str, fl_none, fl_bool, fl_tup, ofS_beq, String.reduceBEq, Bool.and_true, Bool.true_and, e_idx_s, e_idx_l, e_idx_t, e_sls, e_sll, hi_none, lo_none, le_line, le_lineI, rng_lo, fls_nil, fls_d, newL_d, fixT_d, S_length, Option.bind_eq_bind, Option.bind_some, Option.map_some, Option.bind_none, Option.map_none, if_true, if_false, Bool.false_eq_true, decide_eq_true_eq, List.map_cons, List.map_nil, List.length_cons, List.length_nil, and_self, and_true, true_and, true_or, or_true, not_true, not_false, List.mem_cons, List.not_mem_nil, or_false, false_or, or_self, String.reduceEq, reduceIte, ne_eq, Int.reduceLT, Int.reduceLE, Nat.reduceAdd, Nat.reduceLeDiff, Int.reducePow, Int.reduceNeg, Int.reduceBEq, Int.reduceEq, Int.reduceToNat, Int.reduceAdd, Int.reduceSub, Int.reduceMul, reduceCtorEq, Bool.not_true, Bool.not_false, Bool.not_eq_true, hc, e_mod (show 0 < sizeS c k s.length + 1 by omega), ec]; rfl) ?_
    simp only [run_eq, tst_eq, evl_eq, itr_eq, e_add, e_sub, e_mul_l, e_mul_r, e_div, e_mod, e_adds, e_addl, e_set, e_rho_nil, e_rho, e_fint, e_fstr, e_fnone, e_fbool, e_flist, e_ftup, e_rv, e_rl, e_rd, e_putd, e_puts, e_putRd, e_putRs, e_tup, e_putn, e_putc, e_thn, e_thr, e_lt, e_le, e_gt, e_ge, e_eqi, e_nei, e_eqs, e_nes, e_is, e_isnot, e_len_l, e_len_t, e_len_s, e_tb, e_ti, e_tl, e_tn, e_inc, fix_d, fl_nil, fl_int, fl_str, fl_none, fl_bool, fl_tup, ofS_beq, String.reduceBEq, Bool.and_true, Bool.true_and, e_idx_s, e_idx_l, e_idx_t, e_sls, e_sll, hi_none, lo_none, le_line, le_lineI, rng_lo, fls_nil, fls_d, newL_d, fixT_d, S_length, Option.bind_eq_bind, Option.bind_some, Option.map_some, Option.bind_none, Option.map_none, if_true, if_false, Bool.false_eq_true, decide_eq_true_eq, List.map_cons, List.map_nil, List.length_cons, List.length_nil, and_self, and_true, true_and, true_or, or_true, not_true, not_false, List.mem_cons, List.not_mem_nil, or_false, false_or, or_self, String.reduceEq, reduceIte, ne_eq, Int.reduceLT, Int.reduceLE, Nat.reduceAdd, Nat.reduceLeDiff, Int.reducePow, Int.reduceNeg, Int.reduceBEq, Int.reduceEq, Int.reduceToNat, Int.reduceAdd, Int.reduceSub, Int.reduceMul, reduceCtorEq, Bool.not_true, Bool.not_false, Bool.not_eq_true, e1, e2, e3, e4, List.drop_zero, List.take_length]
  · have ec : sizeS c k s.length = cutS c k s.length := by unfold cutS; rw [if_neg hc]
    have hc' : (c % 2 == 0) = false := beq_eq_false_iff_ne.mpr hc
    refine seq (by simp only [run_eq, tst_eq, evl_eq, itr_eq, e_add, e_sub, e_mul_l, e_mul_r, e_div, e_mod, e_adds, e_addl, e_set, e_rho_nil, e_rho, e_fint, e_fstr, e_fnone, e_fbool, e_flist, e_ftup, e_rv, e_rl, e_rd, e_putd, e_puts, e_putRd, e_putRs, e_tup, e_putn, e_putc, e_thn, e_thr, e_lt, e_le, e_gt, e_ge, e_eqi, e_nei, e_eqs, e_nes, e_is, e_isnot, e_len_l, e_len_t, e_len_s, e_tb, e_ti, e_tl, e_tn, e_inc, fix_d, fl_nil, fl_int, fl_str, fl_none, fl_bool, fl_tup, ofS_beq, String.reduceBEq, Bool.and_true, Bool.true_and, e_idx_s, e_idx_l, e_idx_t, e_sls, e_sll, hi_none, lo_none, le_line, le_lineI, rng_lo, fls_nil, fls_d, newL_d, fixT_d, S_length, Option.bind_eq_bind, Option.bind_some, Option.map_some, Option.bind_none, Option.map_none, if_true, if_false, Bool.false_eq_true, decide_eq_true_eq, List.map_cons, List.map_nil, List.length_cons, List.length_nil, and_self, and_true, true_and, true_or, or_true, not_true, not_false, List.mem_cons, List.not_mem_nil, or_false, false_or, or_self, String.reduceEq, reduceIte, ne_eq, Int.reduceLT, Int.reduceLE, Nat.reduceAdd, Nat.reduceLeDiff, Int.reducePow, Int.reduceNeg, Int.reduceBEq, Int.reduceEq, Int.reduceToNat, Int.reduceAdd, Int.reduceSub, Int.reduceMul, reduceCtorEq, Bool.not_true, Bool.not_false, Bool.not_eq_true, hc']; rfl) ?_
    rw [ec]
    simp only [run_eq, tst_eq, evl_eq, itr_eq, e_add, e_sub, e_mul_l, e_mul_r, e_div, e_mod, e_adds, e_addl, e_set, e_rho_nil, e_rho, e_fint, e_fstr, e_fnone, e_fbool, e_flist, e_ftup, e_rv, e_rl, e_rd, e_putd, e_puts, e_putRd, e_putRs, e_tup, e_putn, e_putc, e_thn, e_thr, e_lt, e_le, e_gt, e_ge, e_eqi, e_nei, e_eqs, e_nes, e_is, e_isnot, e_len_l, e_len_t, e_len_s, e_tb, e_ti, e_tl, e_tn, e_inc, fix_d, fl_nil, fl_int, fl_str, fl_none, fl_bool, fl_tup, ofS_beq, String.reduceBEq, Bool.and_true, Bool.true_and, e_idx_s, e_idx_l, e_idx_t, e_sls, e_sll, hi_none, lo_none, le_line, le_lineI, rng_lo, fls_nil, fls_d, newL_d, fixT_d, S_length, Option.bind_eq_bind, Option.bind_some, Option.map_some, Option.bind_none, Option.map_none, if_true, if_false, Bool.false_eq_true, decide_eq_true_eq, List.map_cons, List.map_nil, List.length_cons, List.length_nil, and_self, and_true, true_and, true_or, or_true, not_true, not_false, List.mem_cons, List.not_mem_nil, or_false, false_or, or_self, String.reduceEq, reduceIte, ne_eq, Int.reduceLT, Int.reduceLE, Nat.reduceAdd, Nat.reduceLeDiff, Int.reducePow, Int.reduceNeg, Int.reduceBEq, Int.reduceEq, Int.reduceToNat, Int.reduceAdd, Int.reduceSub, Int.reduceMul, reduceCtorEq, Bool.not_true, Bool.not_false, Bool.not_eq_true, e1, e2, e3, e4, List.drop_zero, List.take_length]
end Mine

/-! text F08_plots -/
set_option autoImplicit false
set_option maxRecDepth 100000
set_option maxHeartbeats 4000000
set_option linter.unusedSimpArgs false
set_option linter.unusedVariables false

namespace Mine
open PySem PySem.Calls
variable {w : World} {hb : Heap}
noncomputable def manyS (l : List Int) : Int := if sAt l 0 / 4 % 8 = 1 then 12 - sAt l 0 / 32 % 8 else 1 + sAt l 0 % 4
noncomputable def pickS (l : List Int) (k : Nat) : Int := if sAt l 1 % 4 = 3 ∧ 0 < k then k - 1 else (sAt l 1 + 7 * k) * 48271 % 10007 % (k + 1)
noncomputable def nameS (l : List Int) (k : Nat) : List Nat := calledS (sAt l 1 / 3) k [97 + k]
noncomputable def outerS (l : List Int) (k : Nat) : Option (List Nat) := if pickS l k < k then some (nameS l (pickS l k).toNat) else none
noncomputable def optP : Option (List Nat) → PyData
  | none => .none
  | some n => .str (S n)
noncomputable def plotP (p : List Nat × Option (List Nat)) : PyData := .tuple [.str (S p.1), optP p.2]
noncomputable def plotS (l : List Int) (k : Nat) : List Nat × Option (List Nat) := (nameS l k, outerS l k)
noncomputable def plotsS (l : List Int) : List (List Nat × Option (List Nat)) := (List.range (manyS l).toNat).map (plotS l)
theorem flats_plot (p : List Nat × Option (List Nat)) : flats [.str (S p.1), optP p.2] = true := by
  cases h : p.2 <;> rfl
theorem fl_opt {o : Option (List Nat)} {xs : List PyData} : flats (optP o :: xs) = flats xs := by
  cases o <;> simp [optP, flats, flat]
theorem many_le (l : List Int) : 1 ≤ manyS l ∧ manyS l ≤ 12 := by unfold manyS; split <;> omega
theorem pick_le (l : List Int) (k : Nat) : 0 ≤ pickS l k ∧ pickS l k ≤ k := by
  unfold pickS; split
  · omega
  · have := Int.emod_lt_of_pos ((sAt l 1 + 7 * k) * 48271 % 10007) (show 0 < (k : Int) + 1 by omega)
    exact ⟨Int.emod_nonneg _ (by omega), by omega⟩
theorem twelve_eq : Str.ofString "abcdefghijkl" = S ((List.range 12).map (97 + ·)) := by decide +kernel
theorem plots_ok (B : Bui hb) (D : DefAt hb "_law_plots" (fnS pw 10) ["_law_script"] (fnB pw 10)) {m_at m_called : List PyData → Option PyData} (h_law_at : DefG pw w hb 2 "_law_at" m_at)
    (e_at : ∀ (l : List Int) (k : Int), 0 ≤ k → m_at [.list (intsP l), .int k] = some (.int (sAt l k))) (h_law_called : DefG pw w hb 2 "_law_called" m_called)
    (e_called : ∀ (c k : Int) (s : List Nat), 0 ≤ k → 1 ≤ s.length → s.length ≤ 8 → m_called [.int c, .int k, .str (S s)] = some (.str (S (calledS c k s)))) :
    ∃ m, DefG pw w hb 3 "_law_plots" m ∧ ∀ l : List Int, m [.list (intsP l)] = some (.list ((plotsS l).map plotP)) := by
  refine ⟨_, DefG.of D (n := 2) (St.cons (S1.assign (Ev.bin Ev.cint (Ev.bin (Ev.def h_law_at (Evs.cons Ev.v (Evs.cons Ev.cint Evs.nil))) Ev.cint)) (by decide +kernel))
    (St.cons (S1.if (Tr.cmp (Ev.bin (Ev.bin (Ev.def h_law_at (Evs.cons Ev.v (Evs.cons Ev.cint Evs.nil))) Ev.cint) Ev.cint) Ev.cint) (St.cons (S1.assign (Ev.bin Ev.cint (Ev.bin (Ev.bin (Ev.def h_law_at (Evs.cons Ev.v (Evs.cons Ev.cint Evs.nil))) Ev.cint) Ev.cint)) (by decide +kernel))
      St.nil) St.nil)
    (St.cons (S1.ownList Evs.nil (by decide +kernel))
    (St.cons (S1.for (It.range (by decide +kernel) B.range Ev.v) (Tg.name (by decide +kernel)) (St.cons (S1.assign (Ev.bin (Ev.bin (Ev.bin (Ev.bin (Ev.def h_law_at (Evs.cons Ev.v (Evs.cons Ev.cint Evs.nil))) (Ev.bin Ev.cint Ev.v)) Ev.cint) Ev.cint) (Ev.bin Ev.v Ev.cint)) (by decide +kernel))
      (St.cons (S1.if (Tr.all (Trs.consAnd (Tr.cmp (Ev.bin (Ev.def h_law_at (Evs.cons Ev.v (Evs.cons Ev.cint Evs.nil))) Ev.cint) Ev.cint) (Trs.consAnd (Tr.cmp Ev.v Ev.cint) Trs.nilAnd))) (St.cons (S1.assign (Ev.bin Ev.v Ev.cint) (by decide +kernel))
        St.nil) St.nil)
      (St.cons (S1.assign Ev.cnone (by decide +kernel))
      (St.cons (S1.if (Tr.cmp Ev.v Ev.v) (St.cons (S1.assign (Ev.idx (Ev.idx Ev.v Ev.v) Ev.cint) (by decide +kernel))
        St.nil) St.nil)
      (St.cons (S1.append (Ev.tuple (Evs.cons (Ev.def h_law_called (Evs.cons (Ev.bin (Ev.def h_law_at (Evs.cons Ev.v (Evs.cons Ev.cint Evs.nil))) Ev.cint) (Evs.cons Ev.v (Evs.cons (Ev.idx Ev.s Ev.v) Evs.nil)))) (Evs.cons Ev.v Evs.nil))) (by decide +kernel))
      St.nil))))))
    (St.cons (S1.retOwn (by decide +kernel))
    St.nil))))) _ (fun _ _ h => h), ?_⟩
  intro l
  have a0 := e_at l 0 (by decide)
  have a1 := e_at l 1 (by decide)
  have hmany := many_le l
  refine fn_ret rfl ?_
  refine seq (by simp only [run_eq, tst_eq, evl_eq, itr_eq, e_add, e_sub, e_mul_l, e_mul_r, e_div, e_mod, e_adds, e_addl, e_set, e_rho_nil, e_rho, e_fint, e_fstr, e_fnone, e_fbool, e_flist, e_ftup, e_rv, e_rl, e_rd, e_putd, e_puts, e_putRd, e_putRs, e_tup, e_putn, e_putc, e_thn, e_thr, e_lt, e_le, e_gt, e_ge, e_eqi, e_nei, e_eqs, e_nes, e_is, e_isnot, e_len_l, e_len_t, e_len_s, e_tb, e_ti, e_tl, e_tn, e_inc, fix_d, fl_nil, fl_int, fl_str, fl_none, fl_bool, fl_tup, ofS_beq, String.reduceBEq, Bool.and_true, Bool.true_and, e_idx_s, e_idx_l, e_idx_t, e_sls, e_sll, hi_none, lo_none, le_line, le_lineI, rng_lo, fls_nil, fls_d, newL_d, fixT_d, S_length, Option.bind_eq_bind, Option.bind_some, Option.map_some, Option.bind_none, Option.map_none, if_true, if_false, Bool.false_eq_true, decide_eq_true_eq, List.map_cons, List.map_nil, List.length_cons, List.length_nil, and_self, and_true, true_and, true_or, or_true, not_true, not_false, List.mem_cons, List.not_mem_nil, or_false, false_or, or_self, String.reduceEq, reduceIte, ne_eq, Int.reduceLT, Int.reduceLE, Nat.reduceAdd, Nat.reduceLeDiff, Int.reducePow, Int.reduceNeg, Int.reduceBEq, Int.reduceEq, Int.reduceToNat, Int.reduceAdd, Int.reduceSub, Int.reduceMul, reduceCtorEq, Bool.not_true, Bool.not_false, Bool.not_eq_true, a0]; rfl) ?_
  refine seqE (fun ρ => ρ "_law_many" = some (.val ⟨.int (manyS l), .d⟩) ∧ ρ "_law_script" = some (.val ⟨.list (intsP l), .s⟩)) ?_ ?_
  · by_cases h0 : sAt l 0 / 4 % 8 = 1
    · have hv : manyS l = 12 - sAt l 0 / 32 % 8 := if_pos h0
      exact ⟨_, by simp only [run_eq, tst_eq, evl_eq, itr_eq, e_add, e_sub, e_mul_l, e_mul_r, e_div, e_mod, e_adds, e_addl, e_set, e_rho_nil, e_rho, e_fint, e_fstr, e_fnone, e_fbool, e_flist, e_ftup, e_rv, e_rl, e_rd, e_putd, e_puts, e_putRd, e_putRs, e_tup, e_putn, e_putc, e_thn, e_thr, e_lt, e_le, e_gt, e_ge, e_eqi, e_nei, e_eqs, e_nes, e_is, e_isnot, e_len_l, e_len_t, e_len_s, e_tb, e_ti, e_tl, e_tn, e_inc, fix_d, fl_nil, fl_int, fl_str, fl_none, fl_bool, fl_tup, ofS_beq, String.reduceBEq, Bool.and_true, Bool.true_and, e_idx_s, e_idx_l, e_idx_t, e_sls, e_sll, hi_none, lo_none, le_line, le_lineI, rng_lo, fls_nil, fls_d, newL_d, fixT_d, S_length, Option.bind_eq_bind, Option.bind_some, Option.map_some, Option.bind_none, Option.map_none, if_true, if_false, Bool.false_eq_true, decide_eq_true_eq, List.map_cons, List.map_nil, List.length_cons, List.length_nil, and_self, and_true, true_and, true_or, or_true, not_true, not_false, List.mem_cons, List.not_mem_nil, or_false, false_or, or_self, String.reduceEq, reduceIte, ne_eq, Int.reduceLT, Int.reduceLE, Nat.reduceAdd, Nat.reduceLeDiff, Int.reducePow, Int.reduceNeg, Int.reduceBEq, Int.reduceEq, Int.reduceToNat, Int.reduceAdd, Int.reduceSub, Int.reduceMul, reduceCtorEq, Bool.not_true, Bool.not_false, Bool.not_eq_true, a0, h0]; rfl, by simp only [run_eq, tst_eq, evl_eq, itr_eq, e_add, e_sub, e_mul_l, e_mul_r, e_div, e_mod, e_adds, e_addl, e_set, e_rho_nil, e_rho, e_fint, e_fstr, e_fnone, e_fbool, e_flist, e_ftup, e_rv, e_rl, e_rd, e_putd, e_puts, e_putRd, e_putRs, e_tup, e_putn, e_putc, e_thn, e_thr, e_lt, e_le, e_gt, e_ge, e_eqi, e_nei, e_eqs, e_nes, e_is, e_isnot, e_len_l, e_len_t, e_len_s, e_tb, e_ti, e_tl, e_tn, e_inc, fix_d, fl_nil, fl_int, fl_str, fl_none, fl_bool, fl_tup, ofS_beq, String.reduceBEq, Bool.and_true, Bool.true_and, e_idx_s, e_idx_l, e_idx_t, e_sls, e_sll, hi_none, lo_none, le_line, le_lineI, rng_lo, fls_nil, fls_d, newL_d, fixT_d, S_length, Option.bind_eq_bind, Option.bind_some, Option.map_some, Option.bind_none, Option.map_none, if_true, if_false, Bool.false_eq_true, decide_eq_true_eq, List.map_cons, List.map_nil, List.length_cons, List.length_nil, and_self, and_true, true_and, true_or, or_true, not_true, not_false, List.mem_cons, List.not_mem_nil, or_false, false_or, or_self, String.reduceEq, reduceIte, ne_eq, Int.reduceLT, Int.reduceLE, Nat.reduceAdd, Nat.reduceLeDiff, Int.reducePow, Int.reduceNeg, Int.reduceBEq, Int.reduceEq, Int.reduceToNat, Int.reduceAdd, Int.reduceSub, Int.reduceMul, reduceCtorEq, Bool.not_true, Bool.not_false, Bool.not_eq_true, hv], by simp only [run_eq, tst_eq, evl_eq, itr_eq, e_add, e_sub, e_mul_l, e_mul_r, e_div, e_mod, e_adds, e_addl, e_set, e_rho_nil, e_rho, e_fint, e_fstr, e_fnone, e_fbool, e_flist, e_ftup, e_rv, e_rl, e_rd, e_putd, e_puts, e_putRd, e_putRs, e_tup, e_putn, e_putc, e_thn, e_thr, e_lt, e_le, e_gt, e_ge, e_eqi, e_nei, e_eqs, e_nes, e_is, e_isnot, e_len_l, e_len_t, e_len_s, e_tb, e_ti, e_tl, e_tn, e_inc, fix_d, fl_nil, fl_int, fl_str, fl_none, fl_bool, fl_tup, ofS_beq, String.reduceBEq, Bool.and_true, Bool.true_and, e_idx_s, e_idx_l, e_idx_t, e_sls, e_sll, hi_none, lo_none, le_line, le_lineI, rng_lo, fls_nil, fls_d, newL_d, fixT_d, S_length, Option.bind_eq_bind, Option.bind_some, Option.map_some, Option.bind_none, Option.map_none, if_true, if_false, Bool.false_eq_true, decide_eq_true_eq, List.map_cons, List.map_nil, List.length_cons, List.length_nil, and_self, and_true, true_and, true_or, or_true, not_true, not_false, List.mem_cons, List.not_mem_nil, or_false, false_or, or_self, String.reduceEq, reduceIte, ne_eq, Int.reduceLT, Int.reduceLE, Nat.reduceAdd, Nat.reduceLeDiff, Int.reducePow, Int.reduceNeg, Int.reduceBEq, Int.reduceEq, Int.reduceToNat, Int.reduceAdd, Int.reduceSub, Int.reduceMul, reduceCtorEq, Bool.not_true, Bool.not_false, Bool.not_eq_true]⟩
    · have hv : manyS l = 1 + sAt l 0 % 4 := if_neg h0
      have h0' : (sAt l 0 / 4 % 8 == 1) = false := beq_eq_false_iff_ne.mpr h0
      exact ⟨_, by simp only [run_eq, tst_eq, evl_eq, itr_eq, e_add, e_sub, e_mul_l, e_mul_r, e_div, e_mod, e_adds, e_addl, e_set, e_rho_nil, e_rho, e_fint, e_fstr, e_fnone, e_fbool, e_flist, e_ftup, e_rv, e_rl, e_rd, e_putd, e_puts, e_putRd, e_putRs, e_tup, e_putn, e_putc, e_thn, e_thr, e_lt, e_le, e_gt, e_ge, e_eqi, e_nei, e_eqs, e_nes, e_is, e_isnot, e_len_l, e_len_t, e_len_s, e_tb, e_ti, e_tl, e_tn, e_inc, fix_d, fl_nil, fl_int, fl_str, fl_none, fl_bool, fl_tup, ofS_beq, String.reduceBEq, Bool.and_true, Bool.true_and, e_idx_s, e_idx_l, e_idx_t, e_sls, e_sll, hi_none, lo_none, le_line, le_lineI, rng_lo, fls_nil, fls_d, newL_d, fixT_d, S_length, Option.bind_eq_bind, Option.bind_some, Option.map_some, Option.bind_none, Option.map_none, if_true, if_false, Bool.false_eq_true, decide_eq_true_eq, List.map_cons, List.map_nil, List.length_cons, List.length_nil, and_self, and_true, true_and, true_or, or_true, not_true, not_false, List.mem_cons, List.not_mem_nil, or_false, false_or, or_self, String.reduceEq, reduceIte, ne_eq, Int.reduceLT, Int.reduceLE, Nat.reduceAdd, Nat.reduceLeDiff, Int.reducePow, Int.reduceNeg, Int.reduceBEq, Int.reduceEq, Int.reduceToNat, Int.reduceAdd, Int.reduceSub, Int.reduceMul, reduceCtorEq, Bool.not_true, Bool.not_false, Bool.not_eq_true, a0, h0']; rfl, by simp only [run_eq, tst_eq, evl_eq, itr_eq, e_add, e_sub, e_mul_l, e_mul_r, e_div, e_mod, e_adds, e_addl, e_set, e_rho_nil, e_rho, e_fint, e_fstr, e_fnone, e_fbool, e_flist, e_ftup, e_rv, e_rl, e_rd, e_putd, e_puts, e_putRd, e_putRs, e_tup, e_putn, e_putc, e_thn, e_thr, e_lt, e_le, e_gt, e_ge, e_eqi, e_nei, e_eqs, e_nes, e_is, e_isnot, e_len_l, e_len_t, e_len_s, e_tb, e_ti, e_tl, e_tn, e_inc, fix_d, fl_nil, fl_int, fl_str, fl_none, fl_bool, fl_tup, ofS_beq, String.reduceBEq, Bool.and_true, Bool.true_and, e_idx_s, e_idx_l, e_idx_t, e_sls, e_sll, hi_none, lo_none, le_line, le_lineI, rng_lo, fls_nil, fls_d, newL_d, fixT_d, S_length, Option.bind_eq_bind, Option.bind_some, Option.map_some, Option.bind_none, Option.map_none, if_true, if_false, Bool.false_eq_true, decide_eq_true_eq, List.map_cons, List.map_nil, List.length_cons, List.length_nil, and_self, and_true, true_and, true_or, or_true, not_true, not_false, List.mem_cons, List.not_mem_nil, or_false, false_or, or_self, String.reduceEq, reduceIte, ne_eq, Int.reduceLT, Int.reduceLE, Nat.reduceAdd, Nat.reduceLeDiff, Int.reducePow, Int.reduceNeg, Int.reduceBEq, Int.reduceEq, Int.reduceToNat, Int.reduceAdd, Int.reduceSub, Int.reduceMul, reduceCtorEq, Bool.not_true, Bool.not_false, Bool.not_eq_true, hv], by simp only [run_eq, tst_eq, evl_eq, itr_eq, e_add, e_sub, e_mul_l, e_mul_r, e_div, e_mod, e_adds, e_addl, e_set, e_rho_nil, e_rho, e_fint, e_fstr, e_fnone, e_fbool, e_flist, e_ftup, e_rv, e_rl, e_rd, e_putd, e_puts, e_putRd, e_putRs, e_tup, e_putn, e_putc, e_thn, e_thr, e_lt, e_le, e_gt, e_ge, e_eqi, e_nei, e_eqs, e_nes, e_is, e_isnot, e_len_l, e_len_t, e_len_s, e_tb, e_ti, e_tl, e_tn, e_inc, fix_d, fl_nil, fl_int, fl_str, fl_none, fl_bool, fl_tup, ofS_beq, String.reduceBEq, Bool.and_true, Bool.true_and, e_idx_s, e_idx_l, e_idx_t, e_sls, e_sll, hi_none, lo_none, le_line, le_lineI, rng_lo, fls_nil, fls_d, newL_d, fixT_d, S_length, Option.bind_eq_bind, Option.bind_some, Option.map_some, Option.bind_none, Option.map_none, if_true, if_false, Bool.false_eq_true, decide_eq_true_eq, List.map_cons, List.map_nil, List.length_cons, List.length_nil, and_self, and_true, true_and, true_or, or_true, not_true, not_false, List.mem_cons, List.not_mem_nil, or_false, false_or, or_self, String.reduceEq, reduceIte, ne_eq, Int.reduceLT, Int.reduceLE, Nat.reduceAdd, Nat.reduceLeDiff, Int.reducePow, Int.reduceNeg, Int.reduceBEq, Int.reduceEq, Int.reduceToNat, Int.reduceAdd, Int.reduceSub, Int.reduceMul, reduceCtorEq, Bool.not_true, Bool.not_false, Bool.not_eq_true]⟩
  rintro ρ ⟨hm, hs⟩
  refine seq (by simp only [run_eq, tst_eq, evl_eq, itr_eq, e_add, e_sub, e_mul_l, e_mul_r, e_div, e_mod, e_adds, e_addl, e_set, e_rho_nil, e_rho, e_fint, e_fstr, e_fnone, e_fbool, e_flist, e_ftup, e_rv, e_rl, e_rd, e_putd, e_puts, e_putRd, e_putRs, e_tup, e_putn, e_putc, e_thn, e_thr, e_lt, e_le, e_gt, e_ge, e_eqi, e_nei, e_eqs, e_nes, e_is, e_isnot, e_len_l, e_len_t, e_len_s, e_tb, e_ti, e_tl, e_tn, e_inc, fix_d, fl_nil, fl_int, fl_str, fl_none, fl_bool, fl_tup, ofS_beq, String.reduceBEq, Bool.and_true, Bool.true_and, e_idx_s, e_idx_l, e_idx_t, e_sls, e_sll, hi_none, lo_none, le_line, le_lineI, rng_lo, fls_nil, fls_d, newL_d, fixT_d, S_length, Option.bind_eq_bind, Option.bind_some, Option.map_some, Option.bind_none, Option.map_none, if_true, if_false, Bool.false_eq_true, decide_eq_true_eq, List.map_cons, List.map_nil, List.length_cons, List.length_nil, and_self, and_true, true_and, true_or, or_true, not_true, not_false, List.mem_cons, List.not_mem_nil, or_false, false_or, or_self, String.reduceEq, reduceIte, ne_eq, Int.reduceLT, Int.reduceLE, Nat.reduceAdd, Nat.reduceLeDiff, Int.reducePow, Int.reduceNeg, Int.reduceBEq, Int.reduceEq, Int.reduceToNat, Int.reduceAdd, Int.reduceSub, Int.reduceMul, reduceCtorEq, Bool.not_true, Bool.not_false, Bool.not_eq_true]; rfl) ?_
  refine seqE (fun ρ => ρ "_law_plots_here" = some (.own (.lst ((plotsS l).map plotP)))) ?_ ?_
  · refine for_run (rangeOf (manyS l)) .d (by simp only [run_eq, tst_eq, evl_eq, itr_eq, e_add, e_sub, e_mul_l, e_mul_r, e_div, e_mod, e_adds, e_addl, e_set, e_rho_nil, e_rho, e_fint, e_fstr, e_fnone, e_fbool, e_flist, e_ftup, e_rv, e_rl, e_rd, e_putd, e_puts, e_putRd, e_putRs, e_tup, e_putn, e_putc, e_thn, e_thr, e_lt, e_le, e_gt, e_ge, e_eqi, e_nei, e_eqs, e_nes, e_is, e_isnot, e_len_l, e_len_t, e_len_s, e_tb, e_ti, e_tl, e_tn, e_inc, fix_d, fl_nil, fl_int, fl_str, fl_none, fl_bool, fl_tup, ofS_beq, String.reduceBEq, Bool.and_true, Bool.true_and, e_idx_s, e_idx_l, e_idx_t, e_sls, e_sll, hi_none, lo_none, le_line, le_lineI, rng_lo, fls_nil, fls_d, newL_d, fixT_d, S_length, Option.bind_eq_bind, Option.bind_some, Option.map_some, Option.bind_none, Option.map_none, if_true, if_false, Bool.false_eq_true, decide_eq_true_eq, List.map_cons, List.map_nil, List.length_cons, List.length_nil, and_self, and_true, true_and, true_or, or_true, not_true, not_false, List.mem_cons, List.not_mem_nil, or_false, false_or, or_self, String.reduceEq, reduceIte, ne_eq, Int.reduceLT, Int.reduceLE, Nat.reduceAdd, Nat.reduceLeDiff, Int.reducePow, Int.reduceNeg, Int.reduceBEq, Int.reduceEq, Int.reduceToNat, Int.reduceAdd, Int.reduceSub, Int.reduceMul, reduceCtorEq, Bool.not_true, Bool.not_false, Bool.not_eq_true, hm, le_lineI (show manyS l ≤ 1000 by omega), rng_lo (show 0 ≤ manyS l by omega)]) (by decide) ?_
    refine (forD_inv' (fun i ρ => ρ "_law_plots_here" = some (.own (.lst (((List.range i).map (plotS l)).map plotP))) ∧ ρ "_law_script" = some (.val ⟨.list (intsP l), .s⟩)) ⟨by simp only [run_eq, tst_eq, evl_eq, itr_eq, e_add, e_sub, e_mul_l, e_mul_r, e_div, e_mod, e_adds, e_addl, e_set, e_rho_nil, e_rho, e_fint, e_fstr, e_fnone, e_fbool, e_flist, e_ftup, e_rv, e_rl, e_rd, e_putd, e_puts, e_putRd, e_putRs, e_tup, e_putn, e_putc, e_thn, e_thr, e_lt, e_le, e_gt, e_ge, e_eqi, e_nei, e_eqs, e_nes, e_is, e_isnot, e_len_l, e_len_t, e_len_s, e_tb, e_ti, e_tl, e_tn, e_inc, fix_d, fl_nil, fl_int, fl_str, fl_none, fl_bool, fl_tup, ofS_beq, String.reduceBEq, Bool.and_true, Bool.true_and, e_idx_s, e_idx_l, e_idx_t, e_sls, e_sll, hi_none, lo_none, le_line, le_lineI, rng_lo, fls_nil, fls_d, newL_d, fixT_d, S_length, Option.bind_eq_bind, Option.bind_some, Option.map_some, Option.bind_none, Option.map_none, if_true, if_false, Bool.false_eq_true, decide_eq_true_eq, List.map_cons, List.map_nil, List.length_cons, List.length_nil, and_self, and_true, true_and, true_or, or_true, not_true, not_false, List.mem_cons, List.not_mem_nil, or_false, false_or, or_self, String.reduceEq, reduceIte, ne_eq, Int.reduceLT, Int.reduceLE, Nat.reduceAdd, Nat.reduceLeDiff, Int.reducePow, Int.reduceNeg, Int.reduceBEq, Int.reduceEq, Int.reduceToNat, Int.reduceAdd, Int.reduceSub, Int.reduceMul, reduceCtorEq, Bool.not_true, Bool.not_false, Bool.not_eq_true]; rfl, by simp only [run_eq, tst_eq, evl_eq, itr_eq, e_add, e_sub, e_mul_l, e_mul_r, e_div, e_mod, e_adds, e_addl, e_set, e_rho_nil, e_rho, e_fint, e_fstr, e_fnone, e_fbool, e_flist, e_ftup, e_rv, e_rl, e_rd, e_putd, e_puts, e_putRd, e_putRs, e_tup, e_putn, e_putc, e_thn, e_thr, e_lt, e_le, e_gt, e_ge, e_eqi, e_nei, e_eqs, e_nes, e_is, e_isnot, e_len_l, e_len_t, e_len_s, e_tb, e_ti, e_tl, e_tn, e_inc, fix_d, fl_nil, fl_int, fl_str, fl_none, fl_bool, fl_tup, ofS_beq, String.reduceBEq, Bool.and_true, Bool.true_and, e_idx_s, e_idx_l, e_idx_t, e_sls, e_sll, hi_none, lo_none, le_line, le_lineI, rng_lo, fls_nil, fls_d, newL_d, fixT_d, S_length, Option.bind_eq_bind, Option.bind_some, Option.map_some, Option.bind_none, Option.map_none, if_true, if_false, Bool.false_eq_true, decide_eq_true_eq, List.map_cons, List.map_nil, List.length_cons, List.length_nil, and_self, and_true, true_and, true_or, or_true, not_true, not_false, List.mem_cons, List.not_mem_nil, or_false, false_or, or_self, String.reduceEq, reduceIte, ne_eq, Int.reduceLT, Int.reduceLE, Nat.reduceAdd, Nat.reduceLeDiff, Int.reducePow, Int.reduceNeg, Int.reduceBEq, Int.reduceEq, Int.reduceToNat, Int.reduceAdd, Int.reduceSub, Int.reduceMul, reduceCtorEq, Bool.not_true, Bool.not_false, Bool.not_eq_true, hs]⟩ ?_).imp fun ρ' h => ⟨h.1, ?_⟩
    · intro i x ρ hx ⟨hp, hs⟩
      obtain ⟨hi, rfl⟩ := rangeOf_get hx
      refine ⟨_, by simp only [run_eq, tst_eq, evl_eq, itr_eq, e_add, e_sub, e_mul_l, e_mul_r, e_div, e_mod, e_adds, e_addl, e_set, e_rho_nil, e_rho, e_fint, e_fstr, e_fnone, e_fbool, e_flist, e_ftup, e_rv, e_rl, e_rd, e_putd, e_puts, e_putRd, e_putRs, e_tup, e_putn, e_putc, e_thn, e_thr, e_lt, e_le, e_gt, e_ge, e_eqi, e_nei, e_eqs, e_nes, e_is, e_isnot, e_len_l, e_len_t, e_len_s, e_tb, e_ti, e_tl, e_tn, e_inc, fix_d, fl_nil, fl_int, fl_str, fl_none, fl_bool, fl_tup, ofS_beq, String.reduceBEq, Bool.and_true, Bool.true_and, e_idx_s, e_idx_l, e_idx_t, e_sls, e_sll, hi_none, lo_none, le_line, le_lineI, rng_lo, fls_nil, fls_d, newL_d, fixT_d, S_length, Option.bind_eq_bind, Option.bind_some, Option.map_some, Option.bind_none, Option.map_none, if_true, if_false, Bool.false_eq_true, decide_eq_true_eq, List.map_cons, List.map_nil, List.length_cons, List.length_nil, and_self, and_true, true_and, true_or, or_true, not_true, not_false, List.mem_cons, List.not_mem_nil, or_false, false_or, or_self, String.reduceEq, reduceIte, ne_eq, Int.reduceLT, Int.reduceLE, Nat.reduceAdd, Nat.reduceLeDiff, Int.reducePow, Int.reduceNeg, Int.reduceBEq, Int.reduceEq, Int.reduceToNat, Int.reduceAdd, Int.reduceSub, Int.reduceMul, reduceCtorEq, Bool.not_true, Bool.not_false, Bool.not_eq_true]; rfl, ?_⟩
      have hpk := pick_le l i
      refine seqN (by simp only [run_eq, tst_eq, evl_eq, itr_eq, e_add, e_sub, e_mul_l, e_mul_r, e_div, e_mod, e_adds, e_addl, e_set, e_rho_nil, e_rho, e_fint, e_fstr, e_fnone, e_fbool, e_flist, e_ftup, e_rv, e_rl, e_rd, e_putd, e_puts, e_putRd, e_putRs, e_tup, e_putn, e_putc, e_thn, e_thr, e_lt, e_le, e_gt, e_ge, e_eqi, e_nei, e_eqs, e_nes, e_is, e_isnot, e_len_l, e_len_t, e_len_s, e_tb, e_ti, e_tl, e_tn, e_inc, fix_d, fl_nil, fl_int, fl_str, fl_none, fl_bool, fl_tup, ofS_beq, String.reduceBEq, Bool.and_true, Bool.true_and, e_idx_s, e_idx_l, e_idx_t, e_sls, e_sll, hi_none, lo_none, le_line, le_lineI, rng_lo, fls_nil, fls_d, newL_d, fixT_d, S_length, Option.bind_eq_bind, Option.bind_some, Option.map_some, Option.bind_none, Option.map_none, if_true, if_false, Bool.false_eq_true, decide_eq_true_eq, List.map_cons, List.map_nil, List.length_cons, List.length_nil, and_self, and_true, true_and, true_or, or_true, not_true, not_false, List.mem_cons, List.not_mem_nil, or_false, false_or, or_self, String.reduceEq, reduceIte, ne_eq, Int.reduceLT, Int.reduceLE, Nat.reduceAdd, Nat.reduceLeDiff, Int.reducePow, Int.reduceNeg, Int.reduceBEq, Int.reduceEq, Int.reduceToNat, Int.reduceAdd, Int.reduceSub, Int.reduceMul, reduceCtorEq, Bool.not_true, Bool.not_false, Bool.not_eq_true, hs, a1, e_mod (show 0 < (i : Int) + 1 by omega)]; rfl) ?_
      refine seqX (fun ρ => ρ "_law_pick" = some (.val ⟨.int (pickS l i), .d⟩) ∧ ρ "_law_k" = some (.val ⟨.int i, .d⟩) ∧ ρ "_law_plots_here" = some (.own (.lst (((List.range i).map (plotS l)).map plotP))) ∧ ρ "_law_script" = some (.val ⟨.list (intsP l), .s⟩)) ?_ ?_
      · by_cases h3 : sAt l 1 % 4 = 3
        · by_cases hk : (i : Int) > 0
          · have hv : pickS l i = i - 1 := if_pos ⟨h3, by omega⟩
            exact ⟨_, by simp only [run_eq, tst_eq, evl_eq, itr_eq, e_add, e_sub, e_mul_l, e_mul_r, e_div, e_mod, e_adds, e_addl, e_set, e_rho_nil, e_rho, e_fint, e_fstr, e_fnone, e_fbool, e_flist, e_ftup, e_rv, e_rl, e_rd, e_putd, e_puts, e_putRd, e_putRs, e_tup, e_putn, e_putc, e_thn, e_thr, e_lt, e_le, e_gt, e_ge, e_eqi, e_nei, e_eqs, e_nes, e_is, e_isnot, e_len_l, e_len_t, e_len_s, e_tb, e_ti, e_tl, e_tn, e_inc, fix_d, fl_nil, fl_int, fl_str, fl_none, fl_bool, fl_tup, ofS_beq, String.reduceBEq, Bool.and_true, Bool.true_and, e_idx_s, e_idx_l, e_idx_t, e_sls, e_sll, hi_none, lo_none, le_line, le_lineI, rng_lo, fls_nil, fls_d, newL_d, fixT_d, S_length, Option.bind_eq_bind, Option.bind_some, Option.map_some, Option.bind_none, Option.map_none, if_true, if_false, Bool.false_eq_true, decide_eq_true_eq, List.map_cons, List.map_nil, List.length_cons, List.length_nil, and_self, and_true, true_and, true_or, or_true, not_true, not_false, List.mem_cons, List.not_mem_nil, or_false, false_or, or_self, String.reduceEq, reduceIte, ne_eq, Int.reduceLT, Int.reduceLE, Nat.reduceAdd, Nat.reduceLeDiff, Int.reducePow, Int.reduceNeg, Int.reduceBEq, Int.reduceEq, Int.reduceToNat, Int.reduceAdd, Int.reduceSub, Int.reduceMul, reduceCtorEq, Bool.not_true, Bool.not_false, Bool.not_eq_true, hs, a1, h3, decide_eq_true hk]; rfl, by simp only [run_eq, tst_eq, evl_eq, itr_eq, e_add, e_sub, e_mul_l, e_mul_r, e_div, e_mod, e_adds, e_addl, e_set, e_rho_nil, e_rho, e_fint, e_fstr, e_fnone, e_fbool, e_flist, e_ftup, e_rv, e_rl, e_rd, e_putd, e_puts, e_putRd, e_putRs, e_tup, e_putn, e_putc, e_thn, e_thr, e_lt, e_le, e_gt, e_ge, e_eqi, e_nei, e_eqs, e_nes, e_is, e_isnot, e_len_l, e_len_t, e_len_s, e_tb, e_ti, e_tl, e_tn, e_inc, fix_d, fl_nil, fl_int, fl_str, fl_none, fl_bool, fl_tup, ofS_beq, String.reduceBEq, Bool.and_true, Bool.true_and, e_idx_s, e_idx_l, e_idx_t, e_sls, e_sll, hi_none, lo_none, le_line, le_lineI, rng_lo, fls_nil, fls_d, newL_d, fixT_d, S_length, Option.bind_eq_bind, Option.bind_some, Option.map_some, Option.bind_none, Option.map_none, if_true, if_false, Bool.false_eq_true, decide_eq_true_eq, List.map_cons, List.map_nil, List.length_cons, List.length_nil, and_self, and_true, true_and, true_or, or_true, not_true, not_false, List.mem_cons, List.not_mem_nil, or_false, false_or, or_self, String.reduceEq, reduceIte, ne_eq, Int.reduceLT, Int.reduceLE, Nat.reduceAdd, Nat.reduceLeDiff, Int.reducePow, Int.reduceNeg, Int.reduceBEq, Int.reduceEq, Int.reduceToNat, Int.reduceAdd, Int.reduceSub, Int.reduceMul, reduceCtorEq, Bool.not_true, Bool.not_false, Bool.not_eq_true, hv], by simp only [run_eq, tst_eq, evl_eq, itr_eq, e_add, e_sub, e_mul_l, e_mul_r, e_div, e_mod, e_adds, e_addl, e_set, e_rho_nil, e_rho, e_fint, e_fstr, e_fnone, e_fbool, e_flist, e_ftup, e_rv, e_rl, e_rd, e_putd, e_puts, e_putRd, e_putRs, e_tup, e_putn, e_putc, e_thn, e_thr, e_lt, e_le, e_gt, e_ge, e_eqi, e_nei, e_eqs, e_nes, e_is, e_isnot, e_len_l, e_len_t, e_len_s, e_tb, e_ti, e_tl, e_tn, e_inc, fix_d, fl_nil, fl_int, fl_str, fl_none, fl_bool, fl_tup, ofS_beq, String.reduceBEq, Bool.and_true, Bool.true_and, e_idx_s, e_idx_l, e_idx_t, e_sls, e_sll, hi_none, lo_none, le_line, le_lineI, rng_lo, fls_nil, fls_d, newL_d, fixT_d, S_length, Option.bind_eq_bind, Option.bind_some, Option.map_some, Option.bind_none, Option.map_none, if_true, if_false, Bool.false_eq_true, decide_eq_true_eq, List.map_cons, List.map_nil, List.length_cons, List.length_nil, and_self, and_true, true_and, true_or, or_true, not_true, not_false, List.mem_cons, List.not_mem_nil, or_false, false_or, or_self, String.reduceEq, reduceIte, ne_eq, Int.reduceLT, Int.reduceLE, Nat.reduceAdd, Nat.reduceLeDiff, Int.reducePow, Int.reduceNeg, Int.reduceBEq, Int.reduceEq, Int.reduceToNat, Int.reduceAdd, Int.reduceSub, Int.reduceMul, reduceCtorEq, Bool.not_true, Bool.not_false, Bool.not_eq_true], by simp only [run_eq, tst_eq, evl_eq, itr_eq, e_add, e_sub, e_mul_l, e_mul_r, e_div, e_mod, e_adds, e_addl, e_set, e_rho_nil, e_rho, e_fint, e_fstr, e_fnone, e_fbool, e_flist, e_ftup, e_rv, e_rl, e_rd, e_putd, e_puts, e_putRd, e_putRs, e_tup, e_putn, e_putc, e_thn, e_thr, e_lt, e_le, e_gt, e_ge, e_eqi, e_nei, e_eqs, e_nes, e_is, e_isnot, e_len_l, e_len_t, e_len_s, e_tb, e_ti, e_tl, e_tn, e_inc, fix_d, fl_nil, fl_int, fl_str, fl_none, fl_bool, fl_tup, ofS_beq, String.reduceBEq, Bool.and_true, Bool.true_and, e_idx_s, e_idx_l, e_idx_t, e_sls, e_sll, hi_none, lo_none, le_line, le_lineI, rng_lo, fls_nil, fls_d, newL_d, fixT_d, S_length, Option.bind_eq_bind, Option.bind_some, Option.map_some, Option.bind_none, Option.map_none, if_true, if_false, Bool.false_eq_true, decide_eq_true_eq, List.map_cons, List.map_nil, List.length_cons, List.length_nil, and_self, and_true, true_and, true_or, or_true, not_true, not_false, List.mem_cons, List.not_mem_nil, or_false, false_or, or_self, String.reduceEq, reduceIte, ne_eq, Int.reduceLT, Int.reduceLE, Nat.reduceAdd, Nat.reduceLeDiff, Int.reducePow, Int.reduceNeg, Int.reduceBEq, Int.reduceEq, Int.reduceToNat, Int.reduceAdd, Int.reduceSub, Int.reduceMul, reduceCtorEq, Bool.not_true, Bool.not_false, Bool.not_eq_true, hp], by simp only [run_eq, tst_eq, evl_eq, itr_eq, e_add, e_sub, e_mul_l, e_mul_r, e_div, e_mod, e_adds, e_addl, e_set, e_rho_nil, e_rho, e_fint, e_fstr, e_fnone, e_fbool, e_flist, e_ftup, e_rv, e_rl, e_rd, e_putd, e_puts, e_putRd, e_putRs, e_tup, e_putn, e_putc, e_thn, e_thr, e_lt, e_le, e_gt, e_ge, e_eqi, e_nei, e_eqs, e_nes, e_is, e_isnot, e_len_l, e_len_t, e_len_s, e_tb, e_ti, e_tl, e_tn, e_inc, fix_d, fl_nil, fl_int, fl_str, fl_none, fl_bool, fl_tup, ofS_beq, String.reduceBEq, Bool.and_true, Bool.true_and, e_idx_s, e_idx_l, e_idx_t, e_sls, e_sll, hi_none, lo_none, le_line, le_lineI, rng_lo, fls_nil, fls_d, newL_d, fixT_d, S_length, Option.bind_eq_bind, Option.bind_some, Option.map_some, Option.bind_none, Option.map_none, if_true, if_false, Bool.false_eq_true, decide_eq_true_eq, List.map_cons, List.map_nil, List.length_cons, List.length_nil, and_self, and_true, true_and, true_or, or_true, not_true, not_false, List.mem_cons, List.not_mem_nil, or_false, false_or, or_self, String.reduceEq, reduceIte, ne_eq, Int.reduceLT, Int.reduceLE, Nat.reduceAdd, Nat.reduceLeDiff, Int.reducePow, Int.reduceNeg, Int.reduceBEq, Int.reduceEq, Int.reduceToNat, Int.reduceAdd, Int.reduceSub, Int.reduceMul, reduceCtorEq, Bool.not_true, Bool.not_false, Bool.not_eq_true, hs]⟩
          · have hv : pickS l i = (sAt l 1 + 7 * i) * 48271 % 10007 % (i + 1) := if_neg fun h => hk (by omega)
            exact ⟨_, by simp only [run_eq, tst_eq, evl_eq, itr_eq, e_add, e_sub, e_mul_l, e_mul_r, e_div, e_mod, e_adds, e_addl, e_set, e_rho_nil, e_rho, e_fint, e_fstr, e_fnone, e_fbool, e_flist, e_ftup, e_rv, e_rl, e_rd, e_putd, e_puts, e_putRd, e_putRs, e_tup, e_putn, e_putc, e_thn, e_thr, e_lt, e_le, e_gt, e_ge, e_eqi, e_nei, e_eqs, e_nes, e_is, e_isnot, e_len_l, e_len_t, e_len_s, e_tb, e_ti, e_tl, e_tn, e_inc, fix_d, fl_nil, fl_int, fl_str, fl_none, fl_bool, fl_tup, ofS_beq, String.reduceBEq, Bool.and_true, Bool.true_and, e_idx_s, e_idx_l, e_idx_t, e_sls, e_sll, hi_none, lo_none, le_line, le_lineI, rng_lo, fls_nil, fls_d, newL_d, fixT_d, S_length, Option.bind_eq_bind, Option.bind_some, Option.map_some, Option.bind_none, Option.map_none, if_true, if_false, Bool.false_eq_true, decide_eq_true_eq, List.map_cons, List.map_nil, List.length_cons, List.length_nil, and_self, and_true, true_and, true_or, or_true, not_true, not_false, List.mem_cons, List.not_mem_nil, or_false, false_or, or_self, String.reduceEq, reduceIte, ne_eq, Int.reduceLT, Int.reduceLE, Nat.reduceAdd, Nat.reduceLeDiff, Int.reducePow, Int.reduceNeg, Int.reduceBEq, Int.reduceEq, Int.reduceToNat, Int.reduceAdd, Int.reduceSub, Int.reduceMul, reduceCtorEq, Bool.not_true, Bool.not_false, Bool.not_eq_true, hs, a1, h3, decide_eq_false hk]; rfl, by simp only [run_eq, tst_eq, evl_eq, itr_eq, e_add, e_sub, e_mul_l, e_mul_r, e_div, e_mod, e_adds, e_addl, e_set, e_rho_nil, e_rho, e_fint, e_fstr, e_fnone, e_fbool, e_flist, e_ftup, e_rv, e_rl, e_rd, e_putd, e_puts, e_putRd, e_putRs, e_tup, e_putn, e_putc, e_thn, e_thr, e_lt, e_le, e_gt, e_ge, e_eqi, e_nei, e_eqs, e_nes, e_is, e_isnot, e_len_l, e_len_t, e_len_s, e_tb, e_ti, e_tl, e_tn, e_inc, fix_d, fl_nil, fl_int, fl_str, fl_none, fl_bool, fl_tup, ofS_beq, String.reduceBEq, Bool.and_true, Bool.true_and, e_idx_s, e_idx_l, e_idx_t, e_sls, e_sll, hi_none, lo_none, le_line, le_lineI, rng_lo, fls_nil, fls_d, newL_d, fixT_d, S_length, Option.bind_eq_bind, Option.bind_some, Option.map_some, Option.bind_none, Option.map_none, if_true, if_false, Bool.false_eq_true, decide_eq_true_eq, List.map_cons, List.map_nil, List.length_cons, List.length_nil, and_self, and_true, true_and, true_or, or_true, not_true, not_false, List.mem_cons, List.not_mem_nil, or_false, false_or, or_self, String.reduceEq, reduceIte, ne_eq, Int.reduceLT, Int.reduceLE, Nat.reduceAdd, Nat.reduceLeDiff, Int.reducePow, Int.reduceNeg, Int.reduceBEq, Int.reduceEq, Int.reduceToNat, Int.reduceAdd, Int.reduceSub, Int.reduceMul, reduceCtorEq, Bool.not_true, Bool.not_false, Bool.not_eq_true, hv], by simp only [run_eq, tst_eq, evl_eq, itr_eq, e_add, e_sub, e_mul_l, e_mul_r, e_div, e_mod, e_adds, e_addl, e_set, e_rho_nil, e_rho, e_fint, e_fstr, e_fnone, e_fbool, e_flist, e_ftup, e_rv, e_rl, e_rd, e_putd, e_puts, e_putRd, e_putRs, e_tup, e_putn, e_putc, e_thn, e_thr, e_lt, e_le, e_gt, e_ge, e_eqi, e_nei, e_eqs, e_nes, e_is, e_isnot, e_len_l, e_len_t, e_len_s, e_tb, e_ti, e_tl, e_tn, e_inc, fix_d, fl_nil, fl_int, fl_str, fl_none, fl_bool, fl_tup, ofS_beq, String.reduceBEq, Bool.and_true, Bool.true_and, e_idx_s, e_idx_l, e_idx_t, e_sls, e_sll, hi_none, lo_none, le_line, le_lineI, rng_lo, fls_nil, fls_d, newL_d, fixT_d, S_length, Option.bind_eq_bind, Option.bind_some, Option.map_some, Option.bind_none, Option.map_none, if_true, if_false, Bool.false_eq_true, decide_eq_true_eq, List.map_cons, List.map_nil, List.length_cons, List.length_nil, and_self, and_true, true_and, true_or, or_true, not_true, not_false, List.mem_cons, List.not_mem_nil, or_false, false_or, or_self, String.reduceEq, reduceIte, ne_eq, Int.reduceLT, Int.reduceLE, Nat.reduceAdd, Nat.reduceLeDiff, Int.reducePow, Int.reduceNeg, Int.reduceBEq, Int.reduceEq, Int.reduceToNat, Int.reduceAdd, Int.reduceSub, Int.reduceMul, reduceCtorEq, Bool.not_true, Bool.not_false, Bool.not_eq_true], by simp only [run_eq, tst_eq, evl_eq, itr_eq, e_add, e_sub, e_mul_l, e_mul_r, e_div, e_mod, e_adds, e_addl, e_set, e_rho_nil, e_rho, e_fint, e_fstr, e_fnone, e_fbool, e_flist, e_ftup, e_rv, e_rl, e_rd, e_putd, e_puts, e_putRd, e_putRs, e_tup, e_putn, e_putc, e_thn, e_thr, e_lt, e_le, e_gt, e_ge, e_eqi, e_nei, e_eqs, e_nes, e_is, e_isnot, e_len_l, e_len_t, e_len_s, e_tb, e_ti, e_tl, e_tn, e_inc, fix_d, fl_nil, fl_int, fl_str, fl_none, fl_bool, fl_tup, ofS_beq, String.reduceBEq, Bool.and_true, Bool.true_and, e_idx_s, e_idx_l, e_idx_t, e_sls, e_sll, hi_none, lo_none, le_line, le_lineI, rng_lo, fls_nil, fls_d, newL_d, fixT_d, S_length, Option.bind_eq_bind, Option.bind_some, Option.map_some, Option.bind_none, Option.map_none, if_true, if_false, Bool.false_eq_true, decide_eq_true_eq, List.map_cons, List.map_nil, List.length_cons, List.length_nil, and_self, and_true, true_and, true_or, or_true, not_true, not_false, List.mem_cons, List.not_mem_nil, or_false, false_or, or_self, String.reduceEq, reduceIte, ne_eq, Int.reduceLT, Int.reduceLE, Nat.reduceAdd, Nat.reduceLeDiff, Int.reducePow, Int.reduceNeg, Int.reduceBEq, Int.reduceEq, Int.reduceToNat, Int.reduceAdd, Int.reduceSub, Int.reduceMul, reduceCtorEq, Bool.not_true, Bool.not_false, Bool.not_eq_true, hp], by simp only [run_eq, tst_eq, evl_eq, itr_eq, e_add, e_sub, e_mul_l, e_mul_r, e_div, e_mod, e_adds, e_addl, e_set, e_rho_nil, e_rho, e_fint, e_fstr, e_fnone, e_fbool, e_flist, e_ftup, e_rv, e_rl, e_rd, e_putd, e_puts, e_putRd, e_putRs, e_tup, e_putn, e_putc, e_thn, e_thr, e_lt, e_le, e_gt, e_ge, e_eqi, e_nei, e_eqs, e_nes, e_is, e_isnot, e_len_l, e_len_t, e_len_s, e_tb, e_ti, e_tl, e_tn, e_inc, fix_d, fl_nil, fl_int, fl_str, fl_none, fl_bool, fl_tup, ofS_beq, String.reduceBEq, Bool.and_true, Bool.true_and, e_idx_s, e_idx_l, e_idx_t, e_sls, e_sll, hi_none, lo_none, le_line, le_lineI, rng_lo, fls_nil, fls_d, newL_d, fixT_d, S_length, Option.bind_eq_bind, Option.bind_some, Option.map_some, Option.bind_none, Option.map_none, if_true, if_false, Bool.false_eq_true, decide_eq_true_eq, List.map_cons, List.map_nil, List.length_cons, List.length_nil, and_self, and_true, true_and, true_or, or_true, not_true, not_false, List.mem_cons, List.not_mem_nil, or_false, false_or, or_self, String.reduceEq, reduceIte, ne_eq, Int.reduceLT, Int.reduceLE, Nat.reduceAdd, Nat.reduceLeDiff, Int.reducePow, Int.reduceNeg, Int.reduceBEq, Int.reduceEq, Int.reduceToNat, Int.reduceAdd, Int.reduceSub, Int.reduceMul, reduceCtorEq, Bool.not_true, Bool.not_false, Bool.not_eq_true, hs]⟩
        · have hv : pickS l i = (sAt l 1 + 7 * i) * 48271 % 10007 % (i + 1) := if_neg fun h => h3 h.1
          have h3' : (sAt l 1 % 4 == 3) = false := beq_eq_false_iff_ne.mpr h3
          exact ⟨_, by simp only [run_eq, tst_eq, evl_eq, itr_eq, e_add, e_sub, e_mul_l, e_mul_r, e_div, e_mod, e_adds, e_addl, e_set, e_rho_nil, e_rho, e_fint, e_fstr, e_fnone, e_fbool, e_flist, e_ftup, e_rv, e_rl, e_rd, e_putd, e_puts, e_putRd, e_putRs, e_tup, e_putn, e_putc, e_thn, e_thr, e_lt, e_le, e_gt, e_ge, e_eqi, e_nei, e_eqs, e_nes, e_is, e_isnot, e_len_l, e_len_t, e_len_s, e_tb, e_ti, e_tl, e_tn, e_inc, fix_d, fl_nil, fl_int, fl_str, fl_none, fl_bool, fl_tup, ofS_beq, String.reduceBEq, Bool.and_true, Bool.true_and, e_idx_s, e_idx_l, e_idx_t, e_sls, e_sll, hi_none, lo_none, le_line, le_lineI, rng_lo, fls_nil, fls_d, newL_d, fixT_d, S_length, Option.bind_eq_bind, Option.bind_some, Option.map_some, Option.bind_none, Option.map_none, if_true, if_false, Bool.false_eq_true, decide_eq_true_eq, List.map_cons, List.map_nil, List.length_cons, List.length_nil, and_self, and_true, true_and, true_or, or_true, not_true, not_false, List.mem_cons, List.not_mem_nil, or_false, false_or, or_self, String.reduceEq, reduceIte, ne_eq, Int.reduceLT, Int.reduceLE, Nat.reduceAdd, Nat.reduceLeDiff, Int.reducePow, Int.reduceNeg, Int.reduceBEq, Int.reduceEq, Int.reduceToNat, Int.reduceAdd, Int.reduceSub, Int.reduceMul, reduceCtorEq, Bool.not_true, Bool.not_false, Bool.not_eq_true, hs, a1, h3']; rfl, by simp only [run_eq, tst_eq, evl_eq, itr_eq, e_add, e_sub, e_mul_l, e_mul_r, e_div, e_mod, e_adds, e_addl, e_set, e_rho_nil, e_rho, e_fint, e_fstr, e_fnone, e_fbool, e_flist, e_ftup, e_rv, e_rl, e_rd, e_putd, e_puts, e_putRd, e_putRs, e_tup, e_putn, e_putc, e_thn, e_thr, e_lt, e_le, e_gt, e_ge, e_eqi, e_nei, e_eqs, e_nes, e_is, e_isnot, e_len_l, e_len_t, e_len_s, e_tb, e_ti, e_tl, e_tn, e_inc, fix_d, fl_nil, fl_int, fl_str, fl_none, fl_bool, fl_tup, ofS_beq, String.reduceBEq, Bool.and_true, Bool.true_and, e_idx_s, e_idx_l, e_idx_t, e_sls, e_sll, hi_none, lo_none, le_line, le_lineI, rng_lo, fls_nil, fls_d, newL_d, fixT_d, S_length, Option.bind_eq_bind, Option.bind_some, Option.map_some, Option.bind_none, Option.map_none, if_true, if_false, Bool.false_eq_true, decide_eq_true_eq, List.map_cons, List.map_nil, List.length_cons, List.length_nil, and_self, and_true, true_and, true_or, or_true, not_true, not_false, List.mem_cons, List.not_mem_nil, or_false, false_or, or_self, String.reduceEq, reduceIte, ne_eq, Int.reduceLT, Int.reduceLE, Nat.reduceAdd, Nat.reduceLeDiff, Int.reducePow, Int.reduceNeg, Int.reduceBEq, Int.reduceEq, Int.reduceToNat, Int.reduceAdd, Int.reduceSub, Int.reduceMul, reduceCtorEq, Bool.not_true, Bool.not_false, Bool.not_eq_true, hv], by simp only [run_eq, tst_eq, evl_eq, itr_eq, e_add, e_sub, e_mul_l, e_mul_r, e_div, e_mod, e_adds, e_addl, e_set, e_rho_nil, e_rho, e_fint, e_fstr, e_fnone, e_fbool, e_flist, e_ftup, e_rv, e_rl, e_rd, e_putd, e_puts, e_putRd, e_putRs, e_tup, e_putn, e_putc, e_thn, e_thr, e_lt, e_le, e_gt, e_ge, e_eqi, e_nei, e_eqs, e_nes, e_is, e_isnot, e_len_l, e_len_t, e_len_s, e_tb, e_ti, e_tl, e_tn, e_inc, fix_d, fl_nil, fl_int, fl_str, fl_none, fl_bool, fl_tup, ofS_beq, String.reduceBEq, Bool.and_true, Bool.true_and, e_idx_s, e_idx_l, e_idx_t, e_sls, e_sll, hi_none, lo_none, le_line, le_lineI, rng_lo, fls_nil, fls_d, newL_d, fixT_d, S_length, Option.bind_eq_bind, Option.bind_some, Option.map_some, Option.bind_none, Option.map_none, if_true, if_false, Bool.false_eq_true, decide_eq_true_eq, List.map_cons, List.map_nil, List.length_cons, List.length_nil, and_self, and_true, true_and, true_or, or_true, not_true, not_false, List.mem_cons, List.not_mem_nil, or_false, false_or, or_self, String.reduceEq, reduceIte, ne_eq, Int.reduceLT, Int.reduceLE, Nat.reduceAdd, Nat.reduceLeDiff, Int.reducePow, Int.reduceNeg, Int.reduceBEq, Int.reduceEq, Int.reduceToNat, Int.reduceAdd, Int.reduceSub, Int.reduceMul, reduceCtorEq, Bool.not_true, Bool.not_false, Bool.not_eq_true], by simp only [run_eq, tst_eq, evl_eq, itr_eq, e_add, e_sub, e_mul_l, e_mul_r, e_div, e_mod, e_adds, e_addl, e_set, e_rho_nil, e_rho, e_fint, e_fstr, e_fnone, e_fbool, e_flist, e_ftup, e_rv, e_rl, e_rd, e_putd, e_puts, e_putRd, e_putRs, e_tup, e_putn, e_putc, e_thn, e_thr, e_lt, e_le, e_gt, e_ge, e_eqi, e_nei, e_eqs, e_nes, e_is, e_isnot, e_len_l, e_len_t, e_len_s, e_tb, e_ti, e_tl, e_tn, e_inc, fix_d, fl_nil, fl_int, fl_str, fl_none, fl_bool, fl_tup, ofS_beq, String.reduceBEq, Bool.and_true, Bool.true_and, e_idx_s, e_idx_l, e_idx_t, e_sls, e_sll, hi_none, lo_none, le_line, le_lineI, rng_lo, fls_nil, fls_d, newL_d, fixT_d, S_length, Option.bind_eq_bind, Option.bind_some, Option.map_some, Option.bind_none, Option.map_none, if_true, if_false, Bool.false_eq_true, decide_eq_true_eq, List.map_cons, List.map_nil, List.length_cons, List.length_nil, and_self, and_true, true_and, true_or, or_true, not_true, not_false, List.mem_cons, List.not_mem_nil, or_false, false_or, or_self, String.reduceEq, reduceIte, ne_eq, Int.reduceLT, Int.reduceLE, Nat.reduceAdd, Nat.reduceLeDiff, Int.reducePow, Int.reduceNeg, Int.reduceBEq, Int.reduceEq, Int.reduceToNat, Int.reduceAdd, Int.reduceSub, Int.reduceMul, reduceCtorEq, Bool.not_true, Bool.not_false, Bool.not_eq_true, hp], by simp only [run_eq, tst_eq, evl_eq, itr_eq, e_add, e_sub, e_mul_l, e_mul_r, e_div, e_mod, e_adds, e_addl, e_set, e_rho_nil, e_rho, e_fint, e_fstr, e_fnone, e_fbool, e_flist, e_ftup, e_rv, e_rl, e_rd, e_putd, e_puts, e_putRd, e_putRs, e_tup, e_putn, e_putc, e_thn, e_thr, e_lt, e_le, e_gt, e_ge, e_eqi, e_nei, e_eqs, e_nes, e_is, e_isnot, e_len_l, e_len_t, e_len_s, e_tb, e_ti, e_tl, e_tn, e_inc, fix_d, fl_nil, fl_int, fl_str, fl_none, fl_bool, fl_tup, ofS_beq, String.reduceBEq, Bool.and_true, Bool.true_and, e_idx_s, e_idx_l, e_idx_t, e_sls, e_sll, hi_none, lo_none, le_line, le_lineI, rng_lo, fls_nil, fls_d, newL_d, fixT_d, S_length, Option.bind_eq_bind, Option.bind_some, Option.map_some, Option.bind_none, Option.map_none, if_true, if_false, Bool.false_eq_true, decide_eq_true_eq, List.map_cons, List.map_nil, List.length_cons, List.length_nil, and_self, and_true, true_and, true_or, or_true, not_true, not_false, List.mem_cons, List.not_mem_nil, or_false, false_or, or_self, String.reduceEq, reduceIte, ne_eq, Int.reduceLT, Int.reduceLE, Nat.reduceAdd, Nat.reduceLeDiff, Int.reducePow, Int.reduceNeg, Int.reduceBEq, Int.reduceEq, Int.reduceToNat, Int.reduceAdd, Int.reduceSub, Int.reduceMul, reduceCtorEq, Bool.not_true, Bool.not_false, Bool.not_eq_true, hs]⟩
      rintro ρ ⟨h1, h2, h3, h4⟩
      refine seqN (by simp only [run_eq, tst_eq, evl_eq, itr_eq, e_add, e_sub, e_mul_l, e_mul_r, e_div, e_mod, e_adds, e_addl, e_set, e_rho_nil, e_rho, e_fint, e_fstr, e_fnone, e_fbool, e_flist, e_ftup, e_rv, e_rl, e_rd, e_putd, e_puts, e_putRd, e_putRs, e_tup, e_putn, e_putc, e_thn, e_thr, e_lt, e_le, e_gt, e_ge, e_eqi, e_nei, e_eqs, e_nes, e_is, e_isnot, e_len_l, e_len_t, e_len_s, e_tb, e_ti, e_tl, e_tn, e_inc, fix_d, fl_nil, fl_int, fl_str, fl_none, fl_bool, fl_tup, ofS_beq, String.reduceBEq, Bool.and_true, Bool.true_and, e_idx_s, e_idx_l, e_idx_t, e_sls, e_sll, hi_none, lo_none, le_line, le_lineI, rng_lo, fls_nil, fls_d, newL_d, fixT_d, S_length, Option.bind_eq_bind, Option.bind_some, Option.map_some, Option.bind_none, Option.map_none, if_true, if_false, Bool.false_eq_true, decide_eq_true_eq, List.map_cons, List.map_nil, List.length_cons, List.length_nil, and_self, and_true, true_and, true_or, or_true, not_true, not_false, List.mem_cons, List.not_mem_nil, or_false, false_or, or_self, String.reduceEq, reduceIte, ne_eq, Int.reduceLT, Int.reduceLE, Nat.reduceAdd, Nat.reduceLeDiff, Int.reducePow, Int.reduceNeg, Int.reduceBEq, Int.reduceEq, Int.reduceToNat, Int.reduceAdd, Int.reduceSub, Int.reduceMul, reduceCtorEq, Bool.not_true, Bool.not_false, Bool.not_eq_true]; rfl) ?_
      refine seqX (fun ρ => ρ "_law_outer" = some (.val ⟨optP (outerS l i), .d⟩) ∧ ρ "_law_k" = some (.val ⟨.int i, .d⟩) ∧ ρ "_law_plots_here" = some (.own (.lst (((List.range i).map (plotS l)).map plotP))) ∧ ρ "_law_script" = some (.val ⟨.list (intsP l), .s⟩)) ?_ ?_
      · by_cases hlt : pickS l i < i
        · have hv : outerS l i = some (nameS l (pickS l i).toNat) := if_pos hlt
          have hg : seqAt (((List.range i).map (plotS l)).map plotP) (pickS l i) = some (plotP (plotS l (pickS l i).toNat)) := by
            rw [seqAt_nat hpk.1, List.getElem?_map, map_range_get _ (by omega)]; rfl
          have hg0 : seqAt [PyData.str (S (plotS l (pickS l i).toNat).1), optP (plotS l (pickS l i).toNat).2] 0 = some (.str (S (nameS l (pickS l i).toNat))) := rfl
          refine ⟨_, by simp only [run_eq, tst_eq, evl_eq, itr_eq, e_add, e_sub, e_mul_l, e_mul_r, e_div, e_mod, e_adds, e_addl, e_set, e_rho_nil, e_rho, e_fint, e_fstr, e_fnone, e_fbool, e_flist, e_ftup, e_rv, e_rl, e_rd, e_putd, e_puts, e_putRd, e_putRs, e_tup, e_putn, e_putc, e_thn, e_thr, e_lt, e_le, e_gt, e_ge, e_eqi, e_nei, e_eqs, e_nes, e_is, e_isnot, e_len_l, e_len_t, e_len_s, e_tb, e_ti, e_tl, e_tn, e_inc, fix_d, fl_nil, fl_int, fl_str, fl_none, fl_bool, fl_tup, ofS_beq, String.reduceBEq, Bool.and_true, Bool.true_and, e_idx_s, e_idx_l, e_idx_t, e_sls, e_sll, hi_none, lo_none, le_line, le_lineI, rng_lo, fls_nil, fls_d, newL_d, fixT_d, S_length, Option.bind_eq_bind, Option.bind_some, Option.map_some, Option.bind_none, Option.map_none, if_true, if_false, Bool.false_eq_true, decide_eq_true_eq, List.map_cons, List.map_nil, List.length_cons, List.length_nil, and_self, and_true, true_and, true_or, or_true, not_true, not_false, List.mem_cons, List.not_mem_nil, or_false, false_or, or_self, String.reduceEq, reduceIte, ne_eq, Int.reduceLT, Int.reduceLE, Nat.reduceAdd, Nat.reduceLeDiff, Int.reducePow, Int.reduceNeg, Int.reduceBEq, Int.reduceEq, Int.reduceToNat, Int.reduceAdd, Int.reduceSub, Int.reduceMul, reduceCtorEq, Bool.not_true, Bool.not_false, Bool.not_eq_true, h1, h2, h3, decide_eq_true hlt, hg, plotP, fl_opt, hg0]; rfl, by simp only [run_eq, tst_eq, evl_eq, itr_eq, e_add, e_sub, e_mul_l, e_mul_r, e_div, e_mod, e_adds, e_addl, e_set, e_rho_nil, e_rho, e_fint, e_fstr, e_fnone, e_fbool, e_flist, e_ftup, e_rv, e_rl, e_rd, e_putd, e_puts, e_putRd, e_putRs, e_tup, e_putn, e_putc, e_thn, e_thr, e_lt, e_le, e_gt, e_ge, e_eqi, e_nei, e_eqs, e_nes, e_is, e_isnot, e_len_l, e_len_t, e_len_s, e_tb, e_ti, e_tl, e_tn, e_inc, fix_d, fl_nil, fl_int, fl_str, fl_none, fl_bool, fl_tup, ofS_beq, String.reduceBEq, Bool.and_true, Bool.true_and, e_idx_s, e_idx_l, e_idx_t, e_sls, e_sll, hi_none, lo_none, le_line, le_lineI, rng_lo, fls_nil, fls_d, newL_d, fixT_d, S_length, Option.bind_eq_bind, Option.bind_some, Option.map_some, Option.bind_none, Option.map_none, if_true, if_false, Bool.false_eq_true, decide_eq_true_eq, List.map_cons, List.map_nil, List.length_cons, List.length_nil, and_self, and_true, true_and, true_or, or_true, not_true, not_false, List.mem_cons, List.not_mem_nil, or_false, false_or, or_self, String.reduceEq, reduceIte, ne_eq, Int.reduceLT, Int.reduceLE, Nat.reduceAdd, Nat.reduceLeDiff, Int.reducePow, Int.reduceNeg, Int.reduceBEq, Int.reduceEq, Int.reduceToNat, Int.reduceAdd, Int.reduceSub, Int.reduceMul, reduceCtorEq, Bool.not_true, Bool.not_false, Bool.not_eq_true, hv, optP, plotS], by simp only [run_eq, tst_eq, evl_eq, itr_eq, e_add, e_sub, e_mul_l, e_mul_r, e_div, e_mod, e_adds, e_addl, e_set, e_rho_nil, e_rho, e_fint, e_fstr, e_fnone, e_fbool, e_flist, e_ftup, e_rv, e_rl, e_rd, e_putd, e_puts, e_putRd, e_putRs, e_tup, e_putn, e_putc, e_thn, e_thr, e_lt, e_le, e_gt, e_ge, e_eqi, e_nei, e_eqs, e_nes, e_is, e_isnot, e_len_l, e_len_t, e_len_s, e_tb, e_ti, e_tl, e_tn, e_inc, fix_d, fl_nil, fl_int, fl_str, fl_none, fl_bool, fl_tup, ofS_beq, String.reduceBEq, Bool.and_true, Bool.true_and, e_idx_s, e_idx_l, e_idx_t, e_sls, e_sll, hi_none, lo_none, le_line, le_lineI, rng_lo, fls_nil, fls_d, newL_d, fixT_d, S_length, Option.bind_eq_bind, Option.bind_some, Option.map_some, Option.bind_none, Option.map_none, if_true, if_false, Bool.false_eq_true, decide_eq_true_eq, List.map_cons, List.map_nil, List.length_cons, List.length_nil, and_self, and_true, true_and, true_or, or_true, not_true, not_false, List.mem_cons, List.not_mem_nil, or_false, false_or, or_self, String.reduceEq, reduceIte, ne_eq, Int.reduceLT, Int.reduceLE, Nat.reduceAdd, Nat.reduceLeDiff, Int.reducePow, Int.reduceNeg, Int.reduceBEq, Int.reduceEq, Int.reduceToNat, Int.reduceAdd, Int.reduceSub, Int.reduceMul, reduceCtorEq, Bool.not_true, Bool.not_false, Bool.not_eq_true, h2], by simp only [run_eq, tst_eq, evl_eq, itr_eq, e_add, e_sub, e_mul_l, e_mul_r, e_div, e_mod, e_adds, e_addl, e_set, e_rho_nil, e_rho, e_fint, e_fstr, e_fnone, e_fbool, e_flist, e_ftup, e_rv, e_rl, e_rd, e_putd, e_puts, e_putRd, e_putRs, e_tup, e_putn, e_putc, e_thn, e_thr, e_lt, e_le, e_gt, e_ge, e_eqi, e_nei, e_eqs, e_nes, e_is, e_isnot, e_len_l, e_len_t, e_len_s, e_tb, e_ti, e_tl, e_tn, e_inc, fix_d, fl_nil, fl_int, fl_str, fl_none, fl_bool, fl_tup, ofS_beq, String.reduceBEq, Bool.and_true, Bool.true_and, e_idx_s, e_idx_l, e_idx_t, e_sls, e_sll, hi_none, lo_none, le_line, le_lineI, rng_lo, fls_nil, fls_d, newL_d, fixT_d, S_length, Option.bind_eq_bind, Option.bind_some, Option.map_some, Option.bind_none, Option.map_none, if_true, if_false, Bool.false_eq_true, decide_eq_true_eq, List.map_cons, List.map_nil, List.length_cons, List.length_nil, and_self, and_true, true_and, true_or, or_true, not_true, not_false, List.mem_cons, List.not_mem_nil, or_false, false_or, or_self, String.reduceEq, reduceIte, ne_eq, Int.reduceLT, Int.reduceLE, Nat.reduceAdd, Nat.reduceLeDiff, Int.reducePow, Int.reduceNeg, Int.reduceBEq, Int.reduceEq, Int.reduceToNat, Int.reduceAdd, Int.reduceSub, Int.reduceMul, reduceCtorEq, Bool.not_true, Bool.not_false, Bool.not_eq_true, h3], by simp only [run_eq, tst_eq, evl_eq, itr_eq, e_add, e_sub, e_mul_l, e_mul_r, e_div, e_mod, e_adds, e_addl, e_set, e_rho_nil, e_rho, e_fint, e_fstr, e_fnone, e_fbool, e_flist, e_ftup, e_rv, e_rl, e_rd, e_putd, e_puts, e_putRd, e_putRs, e_tup, e_putn, e_putc, e_thn, e_thr, e_lt, e_le, e_gt, e_ge, e_eqi, e_nei, e_eqs, e_nes, e_is, e_isnot, e_len_l, e_len_t, e_len_s, e_tb, e_ti, e_tl, e_tn, e_inc, fix_d, fl_nil, fl_int, fl_str, fl_none, fl_bool, fl_tup, ofS_beq, String.reduceBEq, Bool.and_true, Bool.true_and, e_idx_s, e_idx_l, e_idx_t, e_sls, e_sll, hi_none, lo_none, le_line, le_lineI, rng_lo, fls_nil, fls_d, newL_d, fixT_d, S_length, Option.bind_eq_bind, Option.bind_some, Option.map_some, Option.bind_none, Option.map_none, if_true, if_false, Bool.false_eq_true, decide_eq_true_eq, List.map_cons, List.map_nil, List.length_cons, List.length_nil, and_self, and_true, true_and, true_or, or_true, not_true, not_false, List.mem_cons, List.not_mem_nil, or_false, false_or, or_self, String.reduceEq, reduceIte, ne_eq, Int.reduceLT, Int.reduceLE, Nat.reduceAdd, Nat.reduceLeDiff, Int.reducePow, Int.reduceNeg, Int.reduceBEq, Int.reduceEq, Int.reduceToNat, Int.reduceAdd, Int.reduceSub, Int.reduceMul, reduceCtorEq, Bool.not_true, Bool.not_false, Bool.not_eq_true, h4]⟩
        · have hv : outerS l i = none := if_neg hlt
          exact ⟨_, by simp only [run_eq, tst_eq, evl_eq, itr_eq, e_add, e_sub, e_mul_l, e_mul_r, e_div, e_mod, e_adds, e_addl, e_set, e_rho_nil, e_rho, e_fint, e_fstr, e_fnone, e_fbool, e_flist, e_ftup, e_rv, e_rl, e_rd, e_putd, e_puts, e_putRd, e_putRs, e_tup, e_putn, e_putc, e_thn, e_thr, e_lt, e_le, e_gt, e_ge, e_eqi, e_nei, e_eqs, e_nes, e_is, e_isnot, e_len_l, e_len_t, e_len_s, e_tb, e_ti, e_tl, e_tn, e_inc, fix_d, fl_nil, fl_int, fl_str, fl_none, fl_bool, fl_tup, ofS_beq, String.reduceBEq, Bool.and_true, Bool.true_and, e_idx_s, e_idx_l, e_idx_t, e_sls, e_sll, hi_none, lo_none, le_line, le_lineI, rng_lo, fls_nil, fls_d, newL_d, fixT_d, S_length, Option.bind_eq_bind, Option.bind_some, Option.map_some, Option.bind_none, Option.map_none, if_true, if_false, Bool.false_eq_true, decide_eq_true_eq, List.map_cons, List.map_nil, List.length_cons, List.length_nil, and_self, and_true, true_and, true_or, or_true, not_true, not_false, List.mem_cons, List.not_mem_nil, or_false, false_or, or_self, String.reduceEq, reduceIte, ne_eq, Int.reduceLT, Int.reduceLE, Nat.reduceAdd, Nat.reduceLeDiff, Int.reducePow, Int.reduceNeg, Int.reduceBEq, Int.reduceEq, Int.reduceToNat, Int.reduceAdd, Int.reduceSub, Int.reduceMul, reduceCtorEq, Bool.not_true, Bool.not_false, Bool.not_eq_true, h1, h2, decide_eq_false hlt]; rfl, by simp only [run_eq, tst_eq, evl_eq, itr_eq, e_add, e_sub, e_mul_l, e_mul_r, e_div, e_mod, e_adds, e_addl, e_set, e_rho_nil, e_rho, e_fint, e_fstr, e_fnone, e_fbool, e_flist, e_ftup, e_rv, e_rl, e_rd, e_putd, e_puts, e_putRd, e_putRs, e_tup, e_putn, e_putc, e_thn, e_thr, e_lt, e_le, e_gt, e_ge, e_eqi, e_nei, e_eqs, e_nes, e_is, e_isnot, e_len_l, e_len_t, e_len_s, e_tb, e_ti, e_tl, e_tn, e_inc, fix_d, fl_nil, fl_int, fl_str, fl_none, fl_bool, fl_tup, ofS_beq, String.reduceBEq, Bool.and_true, Bool.true_and, e_idx_s, e_idx_l, e_idx_t, e_sls, e_sll, hi_none, lo_none, le_line, le_lineI, rng_lo, fls_nil, fls_d, newL_d, fixT_d, S_length, Option.bind_eq_bind, Option.bind_some, Option.map_some, Option.bind_none, Option.map_none, if_true, if_false, Bool.false_eq_true, decide_eq_true_eq, List.map_cons, List.map_nil, List.length_cons, List.length_nil, and_self, and_true, true_and, true_or, or_true, not_true, not_false, List.mem_cons, List.not_mem_nil, or_false, false_or, or_self, String.reduceEq, reduceIte, ne_eq, Int.reduceLT, Int.reduceLE, Nat.reduceAdd, Nat.reduceLeDiff, Int.reducePow, Int.reduceNeg, Int.reduceBEq, Int.reduceEq, Int.reduceToNat, Int.reduceAdd, Int.reduceSub, Int.reduceMul, reduceCtorEq, Bool.not_true, Bool.not_false, Bool.not_eq_true, hv, optP], by simp only [run_eq, tst_eq, evl_eq, itr_eq, e_add, e_sub, e_mul_l, e_mul_r, e_div, e_mod, e_adds, e_addl, e_set, e_rho_nil, e_rho, e_fint, e_fstr, e_fnone, e_fbool, e_flist, e_ftup, e_rv, e_rl, e_rd, e_putd, e_puts, e_putRd, e_putRs, e_tup, e_putn, e_putc, e_thn, e_thr, e_lt, e_le, e_gt, e_ge, e_eqi, e_nei, e_eqs, e_nes, e_is, e_isnot, e_len_l, e_len_t, e_len_s, e_tb, e_ti, e_tl, e_tn, e_inc, fix_d, fl_nil, fl_int, fl_str, fl_none, fl_bool, fl_tup, ofS_beq, String.reduceBEq, Bool.and_true, Bool.true_and, e_idx_s, e_idx_l, e_idx_t, e_sls, e_sll, hi_none, lo_none, le_line, le_lineI, rng_lo, fls_nil, fls_d, newL_d, fixT_d, S_length, Option.bind_eq_bind, Option.bind_some, Option.map_some, Option.bind_none, Option.map_none, if_true, if_false, Bool.false_eq_true, decide_eq_true_eq, List.map_cons, List.map_nil, List.length_cons, List.length_nil, and_self, and_true, true_and, true_or, or_true, not_true, not_false, List.mem_cons, List.not_mem_nil, or_false, false_or, or_self, String.reduceEq, reduceIte, ne_eq, Int.reduceLT, Int.reduceLE, Nat.reduceAdd, Nat.reduceLeDiff, Int.reducePow, Int.reduceNeg, Int.reduceBEq, Int.reduceEq, Int.reduceToNat, Int.reduceAdd, Int.reduceSub, Int.reduceMul, reduceCtorEq, Bool.not_true, Bool.not_false, Bool.not_eq_true, h2], by simp only [run_eq, tst_eq, evl_eq, itr_eq, e_add, e_sub, e_mul_l, e_mul_r, e_div, e_mod, e_adds, e_addl, e_set, e_rho_nil, e_rho, e_fint, e_fstr, e_fnone, e_fbool, e_flist, e_ftup, e_rv, e_rl, e_rd, e_putd, e_puts, e_putRd, e_putRs, e_tup, e_putn, e_putc, e_thn, e_thr, e_lt, e_le, e_gt, e_ge, e_eqi, e_nei, e_eqs, e_nes, e_is, e_isnot, e_len_l, e_len_t, e_len_s, e_tb, e_ti, e_tl, e_tn, e_inc, fix_d, fl_nil, fl_int, fl_str, fl_none, fl_bool, fl_tup, ofS_beq, String.reduceBEq, Bool.and_true, Bool.true_and, e_idx_s, e_idx_l, e_idx_t, e_sls, e_sll, hi_none, lo_none, le_line, le_lineI, rng_lo, fls_nil, fls_d, newL_d, fixT_d, S_length, Option.bind_eq_bind, Option.bind_some, Option.map_some, Option.bind_none, Option.map_none, if_true, if_false, Bool.false_eq_true, decide_eq_true_eq, List.map_cons, List.map_nil, List.length_cons, List.length_nil, and_self, and_true, true_and, true_or, or_true, not_true, not_false, List.mem_cons, List.not_mem_nil, or_false, false_or, or_self, String.reduceEq, reduceIte, ne_eq, Int.reduceLT, Int.reduceLE, Nat.reduceAdd, Nat.reduceLeDiff, Int.reducePow, Int.reduceNeg, Int.reduceBEq, Int.reduceEq, Int.reduceToNat, Int.reduceAdd, Int.reduceSub, Int.reduceMul, reduceCtorEq, Bool.not_true, Bool.not_false, Bool.not_eq_true, h3], by simp only [run_eq, tst_eq, evl_eq, itr_eq, e_add, e_sub, e_mul_l, e_mul_r, e_div, e_mod, e_adds, e_addl, e_set, e_rho_nil, e_rho, e_fint, e_fstr, e_fnone, e_fbool, e_flist, e_ftup, e_rv, e_rl, e_rd, e_putd, e_puts, e_putRd, e_putRs, e_tup, e_putn, e_putc, e_thn, e_thr, e_lt, e_le, e_gt, e_ge, e_eqi, e_nei, e_eqs, e_nes, e_is, e_isnot, e_len_l, e_len_t, e_len_s, e_tb, e_ti, e_tl, e_tn, e_inc, fix_d, fl_nil, fl_int, fl_str, fl_none, fl_bool, fl_tup, ofS_beq, String.reduceBEq, Bool.and_true, Bool.true_and, e_idx_s, e_idx_l, e_idx_t, e_sls, e_sll, hi_none, lo_none, le_line, le_lineI, rng_lo, fls_nil, fls_d, newL_d, fixT_d, S_length, Option.bind_eq_bind, Option.bind_some, Option.map_some, Option.bind_none, Option.map_none, if_true, if_false, Bool.false_eq_true, decide_eq_true_eq, List.map_cons, List.map_nil, List.length_cons, List.length_nil, and_self, and_true, true_and, true_or, or_true, not_true, not_false, List.mem_cons, List.not_mem_nil, or_false, false_or, or_self, String.reduceEq, reduceIte, ne_eq, Int.reduceLT, Int.reduceLE, Nat.reduceAdd, Nat.reduceLeDiff, Int.reducePow, Int.reduceNeg, Int.reduceBEq, Int.reduceEq, Int.reduceToNat, Int.reduceAdd, Int.reduceSub, Int.reduceMul, reduceCtorEq, Bool.not_true, Bool.not_false, Bool.not_eq_true, h4]⟩
      rintro ρ ⟨h1, h2, h3, h4⟩
      have hi12 : i < 12 := by omega
      have ht : seqAt ((List.range 12).map (97 + ·)) (i : Int) = some (97 + i) := by rw [seqAt_nat (by omega)]; exact map_range_get _ (by omega)
      have hc := e_called (sAt l 1 / 3) i [97 + i] (by omega) (by simp) (by simp)
      have hlen : (((List.range i).map (plotS l)).map plotP).length + 1 ≤ sizeLine := le_line (by simp; omega)
      refine seqN (by simp only [run_eq, tst_eq, evl_eq, itr_eq, e_add, e_sub, e_mul_l, e_mul_r, e_div, e_mod, e_adds, e_addl, e_set, e_rho_nil, e_rho, e_fint, e_fstr, e_fnone, e_fbool, e_flist, e_ftup, e_rv, e_rl, e_rd, e_putd, e_puts, e_putRd, e_putRs, e_tup, e_putn, e_putc, e_thn, e_thr, e_lt, e_le, e_gt, e_ge, e_eqi, e_nei, e_eqs, e_nes, e_is, e_isnot, e_len_l, e_len_t, e_len_s, e_tb, e_ti, e_tl, e_tn, e_inc, fix_d, fl_nil, fl_int, fl_str, fl_none, fl_bool, fl_tup, ofS_beq, String.reduceBEq, Bool.and_true, Bool.true_and, e_idx_s, e_idx_l, e_idx_t, e_sls, e_sll, hi_none, lo_none, le_line, le_lineI, rng_lo, fls_nil, fls_d, newL_d, fixT_d, S_length, Option.bind_eq_bind, Option.bind_some, Option.map_some, Option.bind_none, Option.map_none, if_true, if_false, Bool.false_eq_true, decide_eq_true_eq, List.map_cons, List.map_nil, List.length_cons, List.length_nil, and_self, and_true, true_and, true_or, or_true, not_true, not_false, List.mem_cons, List.not_mem_nil, or_false, false_or, or_self, String.reduceEq, reduceIte, ne_eq, Int.reduceLT, Int.reduceLE, Nat.reduceAdd, Nat.reduceLeDiff, Int.reducePow, Int.reduceNeg, Int.reduceBEq, Int.reduceEq, Int.reduceToNat, Int.reduceAdd, Int.reduceSub, Int.reduceMul, reduceCtorEq, Bool.not_true, Bool.not_false, Bool.not_eq_true, h1, h2, h3, h4, a1, twelve_eq, ht, hc, hlen]; rfl) ?_
      refine doneN ⟨?_, by simp only [run_eq, tst_eq, evl_eq, itr_eq, e_add, e_sub, e_mul_l, e_mul_r, e_div, e_mod, e_adds, e_addl, e_set, e_rho_nil, e_rho, e_fint, e_fstr, e_fnone, e_fbool, e_flist, e_ftup, e_rv, e_rl, e_rd, e_putd, e_puts, e_putRd, e_putRs, e_tup, e_putn, e_putc, e_thn, e_thr, e_lt, e_le, e_gt, e_ge, e_eqi, e_nei, e_eqs, e_nes, e_is, e_isnot, e_len_l, e_len_t, e_len_s, e_tb, e_ti, e_tl, e_tn, e_inc, fix_d, fl_nil, fl_int, fl_str, fl_none, fl_bool, fl_tup, ofS_beq, String.reduceBEq, Bool.and_true, Bool.true_and, e_idx_s, e_idx_l, e_idx_t, e_sls, e_sll, hi_none, lo_none, le_line, le_lineI, rng_lo, fls_nil, fls_d, newL_d, fixT_d, S_length, Option.bind_eq_bind, Option.bind_some, Option.map_some, Option.bind_none, Option.map_none, if_true, if_false, Bool.false_eq_true, decide_eq_true_eq, List.map_cons, List.map_nil, List.length_cons, List.length_nil, and_self, and_true, true_and, true_or, or_true, not_true, not_false, List.mem_cons, List.not_mem_nil, or_false, false_or, or_self, String.reduceEq, reduceIte, ne_eq, Int.reduceLT, Int.reduceLE, Nat.reduceAdd, Nat.reduceLeDiff, Int.reducePow, Int.reduceNeg, Int.reduceBEq, Int.reduceEq, Int.reduceToNat, Int.reduceAdd, Int.reduceSub, Int.reduceMul, reduceCtorEq, Bool.not_true, Bool.not_false, Bool.not_eq_true, h4]⟩
      simp only [run_eq, tst_eq, evl_eq, itr_eq, e_add, e_sub, e_mul_l, e_mul_r, e_div, e_mod, e_adds, e_addl, e_set, e_rho_nil, e_rho, e_fint, e_fstr, e_fnone, e_fbool, e_flist, e_ftup, e_rv, e_rl, e_rd, e_putd, e_puts, e_putRd, e_putRs, e_tup, e_putn, e_putc, e_thn, e_thr, e_lt, e_le, e_gt, e_ge, e_eqi, e_nei, e_eqs, e_nes, e_is, e_isnot, e_len_l, e_len_t, e_len_s, e_tb, e_ti, e_tl, e_tn, e_inc, fix_d, fl_nil, fl_int, fl_str, fl_none, fl_bool, fl_tup, ofS_beq, String.reduceBEq, Bool.and_true, Bool.true_and, e_idx_s, e_idx_l, e_idx_t, e_sls, e_sll, hi_none, lo_none, le_line, le_lineI, rng_lo, fls_nil, fls_d, newL_d, fixT_d, S_length, Option.bind_eq_bind, Option.bind_some, Option.map_some, Option.bind_none, Option.map_none, if_true, if_false, Bool.false_eq_true, decide_eq_true_eq, List.map_cons, List.map_nil, List.length_cons, List.length_nil, and_self, and_true, true_and, true_or, or_true, not_true, not_false, List.mem_cons, List.not_mem_nil, or_false, false_or, or_self, String.reduceEq, reduceIte, ne_eq, Int.reduceLT, Int.reduceLE, Nat.reduceAdd, Nat.reduceLeDiff, Int.reducePow, Int.reduceNeg, Int.reduceBEq, Int.reduceEq, Int.reduceToNat, Int.reduceAdd, Int.reduceSub, Int.reduceMul, reduceCtorEq, Bool.not_true, Bool.not_false, Bool.not_eq_true, range_snoc, List.map_append]
      rfl
    · rw [h.2.1, rangeOf_len]; rfl
  · intro ρ hp
    simp only [run_eq, tst_eq, evl_eq, itr_eq, e_add, e_sub, e_mul_l, e_mul_r, e_div, e_mod, e_adds, e_addl, e_set, e_rho_nil, e_rho, e_fint, e_fstr, e_fnone, e_fbool, e_flist, e_ftup, e_rv, e_rl, e_rd, e_putd, e_puts, e_putRd, e_putRs, e_tup, e_putn, e_putc, e_thn, e_thr, e_lt, e_le, e_gt, e_ge, e_eqi, e_nei, e_eqs, e_nes, e_is, e_isnot, e_len_l, e_len_t, e_len_s, e_tb, e_ti, e_tl, e_tn, e_inc, fix_d, fl_nil, fl_int, fl_str, fl_none, fl_bool, fl_tup, ofS_beq, String.reduceBEq, Bool.and_true, Bool.true_and, e_idx_s, e_idx_l, e_idx_t, e_sls, e_sll, hi_none, lo_none, le_line, le_lineI, rng_lo, fls_nil, fls_d, newL_d, fixT_d, S_length, Option.bind_eq_bind, Option.bind_some, Option.map_some, Option.bind_none, Option.map_none, if_true, if_false, Bool.false_eq_true, decide_eq_true_eq, List.map_cons, List.map_nil, List.length_cons, List.length_nil, and_self, and_true, true_and, true_or, or_true, not_true, not_false, List.mem_cons, List.not_mem_nil, or_false, false_or, or_self, String.reduceEq, reduceIte, ne_eq, Int.reduceLT, Int.reduceLE, Nat.reduceAdd, Nat.reduceLeDiff, Int.reducePow, Int.reduceNeg, Int.reduceBEq, Int.reduceEq, Int.reduceToNat, Int.reduceAdd, Int.reduceSub, Int.reduceMul, reduceCtorEq, Bool.not_true, Bool.not_false, Bool.not_eq_true, hp]
end Mine

/-! text F08_names -/
set_option autoImplicit false
set_option maxRecDepth 100000
set_option maxHeartbeats 4000000
set_option linter.unusedSimpArgs false
set_option linter.unusedVariables false

namespace Mine
open PySem PySem.Calls
variable {w : World} {hb : Heap}
noncomputable def nmanyS (l : List Int) : Int := if sAt l 2 / 5 % 16 = 3 then 60 else 1 + sAt l 2 % 5
noncomputable def signS (k : Nat) : List Nat := [97 + k / 26, 122 - k % 26]
noncomputable abbrev strP (n : List Nat) : PyData := .str (S n)
noncomputable def namesS (l : List Int) (ps : List (List Nat × Option (List Nat))) : List (List Nat) :=
  if sAt l 2 / 5 % 4 = 1 then (ps.map (·.1)).take (nmanyS l).toNat else (List.range (nmanyS l).toNat).map fun (k : Nat) => calledS (sAt l 2 / 80) k (signS k)
theorem nmany_le (l : List Int) : 1 ≤ nmanyS l ∧ nmanyS l ≤ 60 := by unfold nmanyS; split <;> omega
theorem abc_eq : Str.ofString "abc" = S [97, 98, 99] := by decide +kernel
theorem ends_eq : Str.ofString "zyxwvutsrqponmlkjihgfedcba" = S ((List.range 26).map (122 - ·)) := by decide +kernel
theorem abc_at {k : Nat} (h : k < 78) : seqAt [97, 98, 99] ((k : Int) / 26) = some (97 + k / 26) := by
  rw [seqAt_nat (by omega), show ((k : Int) / 26).toNat = k / 26 by omega]
  have : k / 26 < 3 := by omega
  generalize k / 26 = j at this
  match j, this with
  | 0, _ => rfl
  | 1, _ => rfl
  | 2, _ => rfl
theorem ends_at (k : Nat) : seqAt ((List.range 26).map (122 - ·)) ((k : Int) % 26) = some (122 - k % 26) := by
  rw [seqAt_nat (by omega), show ((k : Int) % 26).toNat = k % 26 by omega]
  exact map_range_get _ (by omega)
theorem names_ok (B : Bui hb) (D : DefAt hb "_law_names" (fnS pw 11) ["_law_script", "_law_plots_here"] (fnB pw 11)) {m_at m_called : List PyData → Option PyData} (h_law_at : DefG pw w hb 2 "_law_at" m_at)
    (e_at : ∀ (l : List Int) (k : Int), 0 ≤ k → m_at [.list (intsP l), .int k] = some (.int (sAt l k))) (h_law_called : DefG pw w hb 2 "_law_called" m_called)
    (e_called : ∀ (c k : Int) (s : List Nat), 0 ≤ k → 1 ≤ s.length → s.length ≤ 8 → m_called [.int c, .int k, .str (S s)] = some (.str (S (calledS c k s)))) :
    ∃ m, DefG pw w hb 3 "_law_names" m ∧ ∀ (l : List Int) (ps : List (List Nat × Option (List Nat))), m [.list (intsP l), .list (ps.map plotP)] = some (.list ((namesS l ps).map strP)) := by
  refine ⟨_, DefG.of D (n := 2) (St.cons (S1.assign (Ev.def h_law_at (Evs.cons Ev.v (Evs.cons Ev.cint Evs.nil))) (by decide +kernel))
    (St.cons (S1.assign (Ev.bin Ev.cint (Ev.bin Ev.v Ev.cint)) (by decide +kernel))
    (St.cons (S1.if (Tr.cmp (Ev.bin (Ev.bin Ev.v Ev.cint) Ev.cint) Ev.cint) (St.cons (S1.assign Ev.cint (by decide +kernel))
      St.nil) St.nil)
    (St.cons (S1.if (Tr.cmp (Ev.bin (Ev.bin Ev.v Ev.cint) Ev.cint) Ev.cint) (St.cons (S1.ret (Ev.slice (Ev.comp (locs := [".0", "_law_plot", "_law_outer"]) (by decide +kernel) (It.data Ev.v) (TgL.tuple (xs := ["_law_plot", "_law_outer"]) (by decide +kernel) (by decide +kernel) rfl) Ifs.nil Ev.v) Pt.no (Pt.yes Ev.v) Pt.no))
      St.nil) St.nil)
    (St.cons (S1.assign Ev.s (by decide +kernel))
    (St.cons (S1.ret (Ev.comp (locs := [".0", "_law_k"]) (by decide +kernel) (It.range (by decide +kernel) B.range Ev.v) (TgL.name (by decide +kernel) (by decide +kernel)) Ifs.nil (Ev.def h_law_called (Evs.cons (Ev.bin Ev.v Ev.cint) (Evs.cons Ev.v (Evs.cons (Ev.bin (Ev.idx Ev.s (Ev.bin Ev.v Ev.cint)) (Ev.idx Ev.v (Ev.bin Ev.v Ev.cint))) Evs.nil))))))
    St.nil)))))) _ (fun _ _ h => h), ?_⟩
  intro l ps
  have a2 := e_at l 2 (by decide)
  have hmany := nmany_le l
  refine fn_ret rfl ?_
  refine seq (by simp only [run_eq, tst_eq, evl_eq, itr_eq, e_add, e_sub, e_mul_l, e_mul_r, e_div, e_mod, e_adds, e_addl, e_set, e_rho_nil, e_rho, e_fint, e_fstr, e_fnone, e_fbool, e_flist, e_ftup, e_rv, e_rl, e_rd, e_putd, e_puts, e_putRd, e_putRs, e_tup, e_putn, e_putc, e_thn, e_thr, e_lt, e_le, e_gt, e_ge, e_eqi, e_nei, e_eqs, e_nes, e_is, e_isnot, e_len_l, e_len_t, e_len_s, e_tb, e_ti, e_tl, e_tn, e_inc, fix_d, fl_nil, fl_int, fl_str, fl_none, fl_bool, fl_tup, ofS_beq, String.reduceBEq, Bool.and_true, Bool.true_and, e_idx_s, e_idx_l, e_idx_t, e_sls, e_sll, hi_none, lo_none, le_line, le_lineI, rng_lo, fls_nil, fls_d, newL_d, fixT_d, S_length, Option.bind_eq_bind, Option.bind_some, Option.map_some, Option.bind_none, Option.map_none, if_true, if_false, Bool.false_eq_true, decide_eq_true_eq, List.map_cons, List.map_nil, List.length_cons, List.length_nil, and_self, and_true, true_and, true_or, or_true, not_true, not_false, List.mem_cons, List.not_mem_nil, or_false, false_or, or_self, String.reduceEq, reduceIte, ne_eq, Int.reduceLT, Int.reduceLE, Nat.reduceAdd, Nat.reduceLeDiff, Int.reducePow, Int.reduceNeg, Int.reduceBEq, Int.reduceEq, Int.reduceToNat, Int.reduceAdd, Int.reduceSub, Int.reduceMul, reduceCtorEq, Bool.not_true, Bool.not_false, Bool.not_eq_true, a2]; rfl) ?_
  refine seq (by simp only [run_eq, tst_eq, evl_eq, itr_eq, e_add, e_sub, e_mul_l, e_mul_r, e_div, e_mod, e_adds, e_addl, e_set, e_rho_nil, e_rho, e_fint, e_fstr, e_fnone, e_fbool, e_flist, e_ftup, e_rv, e_rl, e_rd, e_putd, e_puts, e_putRd, e_putRs, e_tup, e_putn, e_putc, e_thn, e_thr, e_lt, e_le, e_gt, e_ge, e_eqi, e_nei, e_eqs, e_nes, e_is, e_isnot, e_len_l, e_len_t, e_len_s, e_tb, e_ti, e_tl, e_tn, e_inc, fix_d, fl_nil, fl_int, fl_str, fl_none, fl_bool, fl_tup, ofS_beq, String.reduceBEq, Bool.and_true, Bool.true_and, e_idx_s, e_idx_l, e_idx_t, e_sls, e_sll, hi_none, lo_none, le_line, le_lineI, rng_lo, fls_nil, fls_d, newL_d, fixT_d, S_length, Option.bind_eq_bind, Option.bind_some, Option.map_some, Option.bind_none, Option.map_none, if_true, if_false, Bool.false_eq_true, decide_eq_true_eq, List.map_cons, List.map_nil, List.length_cons, List.length_nil, and_self, and_true, true_and, true_or, or_true, not_true, not_false, List.mem_cons, List.not_mem_nil, or_false, false_or, or_self, String.reduceEq, reduceIte, ne_eq, Int.reduceLT, Int.reduceLE, Nat.reduceAdd, Nat.reduceLeDiff, Int.reducePow, Int.reduceNeg, Int.reduceBEq, Int.reduceEq, Int.reduceToNat, Int.reduceAdd, Int.reduceSub, Int.reduceMul, reduceCtorEq, Bool.not_true, Bool.not_false, Bool.not_eq_true]; rfl) ?_
  refine seqE (fun ρ => ρ "_law_many" = some (.val ⟨.int (nmanyS l), .d⟩) ∧ ρ "_law_cell" = some (.val ⟨.int (sAt l 2), .d⟩) ∧ ρ "_law_plots_here" = some (.val ⟨.list (ps.map plotP), .s⟩)) ?_ ?_
  · by_cases h0 : sAt l 2 / 5 % 16 = 3
    · have hv : nmanyS l = 60 := if_pos h0
      exact ⟨_, by simp only [run_eq, tst_eq, evl_eq, itr_eq, e_add, e_sub, e_mul_l, e_mul_r, e_div, e_mod, e_adds, e_addl, e_set, e_rho_nil, e_rho, e_fint, e_fstr, e_fnone, e_fbool, e_flist, e_ftup, e_rv, e_rl, e_rd, e_putd, e_puts, e_putRd, e_putRs, e_tup, e_putn, e_putc, e_thn, e_thr, e_lt, e_le, e_gt, e_ge, e_eqi, e_nei, e_eqs, e_nes, e_is, e_isnot, e_len_l, e_len_t, e_len_s, e_tb, e_ti, e_tl, e_tn, e_inc, fix_d, fl_nil, fl_int, fl_str, fl_none, fl_bool, fl_tup, ofS_beq, String.reduceBEq, Bool.and_true, Bool.true_and, e_idx_s, e_idx_l, e_idx_t, e_sls, e_sll, hi_none, lo_none, le_line, le_lineI, rng_lo, fls_nil, fls_d, newL_d, fixT_d, S_length, Option.bind_eq_bind, Option.bind_some, Option.map_some, Option.bind_none, Option.map_none, if_true, if_false, Bool.false_eq_true, decide_eq_true_eq, List.map_cons, List.map_nil, List.length_cons, List.length_nil, and_self, and_true, true_and, true_or, or_true, not_true, not_false, List.mem_cons, List.not_mem_nil, or_false, false_or, or_self, String.reduceEq, reduceIte, ne_eq, Int.reduceLT, Int.reduceLE, Nat.reduceAdd, Nat.reduceLeDiff, Int.reducePow, Int.reduceNeg, Int.reduceBEq, Int.reduceEq, Int.reduceToNat, Int.reduceAdd, Int.reduceSub, Int.reduceMul, reduceCtorEq, Bool.not_true, Bool.not_false, Bool.not_eq_true, h0]; rfl, by simp only [run_eq, tst_eq, evl_eq, itr_eq, e_add, e_sub, e_mul_l, e_mul_r, e_div, e_mod, e_adds, e_addl, e_set, e_rho_nil, e_rho, e_fint, e_fstr, e_fnone, e_fbool, e_flist, e_ftup, e_rv, e_rl, e_rd, e_putd, e_puts, e_putRd, e_putRs, e_tup, e_putn, e_putc, e_thn, e_thr, e_lt, e_le, e_gt, e_ge, e_eqi, e_nei, e_eqs, e_nes, e_is, e_isnot, e_len_l, e_len_t, e_len_s, e_tb, e_ti, e_tl, e_tn, e_inc, fix_d, fl_nil, fl_int, fl_str, fl_none, fl_bool, fl_tup, ofS_beq, String.reduceBEq, Bool.and_true, Bool.true_and, e_idx_s, e_idx_l, e_idx_t, e_sls, e_sll, hi_none, lo_none, le_line, le_lineI, rng_lo, fls_nil, fls_d, newL_d, fixT_d, S_length, Option.bind_eq_bind, Option.bind_some, Option.map_some, Option.bind_none, Option.map_none, if_true, if_false, Bool.false_eq_true, decide_eq_true_eq, List.map_cons, List.map_nil, List.length_cons, List.length_nil, and_self, and_true, true_and, true_or, or_true, not_true, not_false, List.mem_cons, List.not_mem_nil, or_false, false_or, or_self, String.reduceEq, reduceIte, ne_eq, Int.reduceLT, Int.reduceLE, Nat.reduceAdd, Nat.reduceLeDiff, Int.reducePow, Int.reduceNeg, Int.reduceBEq, Int.reduceEq, Int.reduceToNat, Int.reduceAdd, Int.reduceSub, Int.reduceMul, reduceCtorEq, Bool.not_true, Bool.not_false, Bool.not_eq_true, hv], by simp only [run_eq, tst_eq, evl_eq, itr_eq, e_add, e_sub, e_mul_l, e_mul_r, e_div, e_mod, e_adds, e_addl, e_set, e_rho_nil, e_rho, e_fint, e_fstr, e_fnone, e_fbool, e_flist, e_ftup, e_rv, e_rl, e_rd, e_putd, e_puts, e_putRd, e_putRs, e_tup, e_putn, e_putc, e_thn, e_thr, e_lt, e_le, e_gt, e_ge, e_eqi, e_nei, e_eqs, e_nes, e_is, e_isnot, e_len_l, e_len_t, e_len_s, e_tb, e_ti, e_tl, e_tn, e_inc, fix_d, fl_nil, fl_int, fl_str, fl_none, fl_bool, fl_tup, ofS_beq, String.reduceBEq, Bool.and_true, Bool.true_and, e_idx_s, e_idx_l, e_idx_t, e_sls, e_sll, hi_none, lo_none, le_line, le_lineI, rng_lo, fls_nil, fls_d, newL_d, fixT_d, S_length, Option.bind_eq_bind, Option.bind_some, Option.map_some, Option.bind_none, Option.map_none, if_true, if_false, Bool.false_eq_true, decide_eq_true_eq, List.map_cons, List.map_nil, List.length_cons, List.length_nil, and_self, and_true, true_and, true_or, or_true, not_true, not_false, List.mem_cons, List.not_mem_nil, or_false, false_or, or_self, String.reduceEq, reduceIte, ne_eq, Int.reduceLT, Int.reduceLE, Nat.reduceAdd, Nat.reduceLeDiff, Int.reducePow, Int.reduceNeg, Int.reduceBEq, Int.reduceEq, Int.reduceToNat, Int.reduceAdd, Int.reduceSub, Int.reduceMul, reduceCtorEq, Bool.not_true, Bool.not_false, Bool.not_eq_true], by simp only [run_eq, tst_eq, evl_eq, itr_eq, e_add, e_sub, e_mul_l, e_mul_r, e_div, e_mod, e_adds, e_addl, e_set, e_rho_nil, e_rho, e_fint, e_fstr, e_fnone, e_fbool, e_flist, e_ftup, e_rv, e_rl, e_rd, e_putd, e_puts, e_putRd, e_putRs, e_tup, e_putn, e_putc, e_thn, e_thr, e_lt, e_le, e_gt, e_ge, e_eqi, e_nei, e_eqs, e_nes, e_is, e_isnot, e_len_l, e_len_t, e_len_s, e_tb, e_ti, e_tl, e_tn, e_inc, fix_d, fl_nil, fl_int, fl_str, fl_none, fl_bool, fl_tup, ofS_beq, String.reduceBEq, Bool.and_true, Bool.true_and, e_idx_s, e_idx_l, e_idx_t, e_sls, e_sll, hi_none, lo_none, le_line, le_lineI, rng_lo, fls_nil, fls_d, newL_d, fixT_d, S_length, Option.bind_eq_bind, Option.bind_some, Option.map_some, Option.bind_none, Option.map_none, if_true, if_false, Bool.false_eq_true, decide_eq_true_eq, List.map_cons, List.map_nil, List.length_cons, List.length_nil, and_self, and_true, true_and, true_or, or_true, not_true, not_false, List.mem_cons, List.not_mem_nil, or_false, false_or, or_self, String.reduceEq, reduceIte, ne_eq, Int.reduceLT, Int.reduceLE, Nat.reduceAdd, Nat.reduceLeDiff, Int.reducePow, Int.reduceNeg, Int.reduceBEq, Int.reduceEq, Int.reduceToNat, Int.reduceAdd, Int.reduceSub, Int.reduceMul, reduceCtorEq, Bool.not_true, Bool.not_false, Bool.not_eq_true]⟩
    · have hv : nmanyS l = 1 + sAt l 2 % 5 := if_neg h0
      have h0' : (sAt l 2 / 5 % 16 == 3) = false := beq_eq_false_iff_ne.mpr h0
      exact ⟨_, by simp only [run_eq, tst_eq, evl_eq, itr_eq, e_add, e_sub, e_mul_l, e_mul_r, e_div, e_mod, e_adds, e_addl, e_set, e_rho_nil, e_rho, e_fint, e_fstr, e_fnone, e_fbool, e_flist, e_ftup, e_rv, e_rl, e_rd, e_putd, e_puts, e_putRd, e_putRs, e_tup, e_putn, e_putc, e_thn, e_thr, e_lt, e_le, e_gt, e_ge, e_eqi, e_nei, e_eqs, e_nes, e_is, e_isnot, e_len_l, e_len_t, e_len_s, e_tb, e_ti, e_tl, e_tn, e_inc, fix_d, fl_nil, fl_int, fl_str, fl_none, fl_bool, fl_tup, ofS_beq, String.reduceBEq, Bool.and_true, Bool.true_and, e_idx_s, e_idx_l, e_idx_t, e_sls, e_sll, hi_none, lo_none, le_line, le_lineI, rng_lo, fls_nil, fls_d, newL_d, fixT_d, S_length, Option.bind_eq_bind, Option.bind_some, Option.map_some, Option.bind_none, Option.map_none, if_true, if_false, Bool.false_eq_true, decide_eq_true_eq, List.map_cons, List.map_nil, List.length_cons, List.length_nil, and_self, and_true, true_and, true_or, or_true, not_true, not_false, List.mem_cons, List.not_mem_nil, or_false, false_or, or_self, String.reduceEq, reduceIte, ne_eq, Int.reduceLT, Int.reduceLE, Nat.reduceAdd, Nat.reduceLeDiff, Int.reducePow, Int.reduceNeg, Int.reduceBEq, Int.reduceEq, Int.reduceToNat, Int.reduceAdd, Int.reduceSub, Int.reduceMul, reduceCtorEq, Bool.not_true, Bool.not_false, Bool.not_eq_true, h0']; rfl, by simp only [run_eq, tst_eq, evl_eq, itr_eq, e_add, e_sub, e_mul_l, e_mul_r, e_div, e_mod, e_adds, e_addl, e_set, e_rho_nil, e_rho, e_fint, e_fstr, e_fnone, e_fbool, e_flist, e_ftup, e_rv, e_rl, e_rd, e_putd, e_puts, e_putRd, e_putRs, e_tup, e_putn, e_putc, e_thn, e_thr, e_lt, e_le, e_gt, e_ge, e_eqi, e_nei, e_eqs, e_nes, e_is, e_isnot, e_len_l, e_len_t, e_len_s, e_tb, e_ti, e_tl, e_tn, e_inc, fix_d, fl_nil, fl_int, fl_str, fl_none, fl_bool, fl_tup, ofS_beq, String.reduceBEq, Bool.and_true, Bool.true_and, e_idx_s, e_idx_l, e_idx_t, e_sls, e_sll, hi_none, lo_none, le_line, le_lineI, rng_lo, fls_nil, fls_d, newL_d, fixT_d, S_length, Option.bind_eq_bind, Option.bind_some, Option.map_some, Option.bind_none, Option.map_none, if_true, if_false, Bool.false_eq_true, decide_eq_true_eq, List.map_cons, List.map_nil, List.length_cons, List.length_nil, and_self, and_true, true_and, true_or, or_true, not_true, not_false, List.mem_cons, List.not_mem_nil, or_false, false_or, or_self, String.reduceEq, reduceIte, ne_eq, Int.reduceLT, Int.reduceLE, Nat.reduceAdd, Nat.reduceLeDiff, Int.reducePow, Int.reduceNeg, Int.reduceBEq, Int.reduceEq, Int.reduceToNat, Int.reduceAdd, Int.reduceSub, Int.reduceMul, reduceCtorEq, Bool.not_true, Bool.not_false, Bool.not_eq_true, hv], by simp only [run_eq, tst_eq, evl_eq, itr_eq, e_add, e_sub, e_mul_l, e_mul_r, e_div, e_mod, e_adds, e_addl, e_set, e_rho_nil, e_rho, e_fint, e_fstr, e_fnone, e_fbool, e_flist, e_ftup, e_rv, e_rl, e_rd, e_putd, e_puts, e_putRd, e_putRs, e_tup, e_putn, e_putc, e_thn, e_thr, e_lt, e_le, e_gt, e_ge, e_eqi, e_nei, e_eqs, e_nes, e_is, e_isnot, e_len_l, e_len_t, e_len_s, e_tb, e_ti, e_tl, e_tn, e_inc, fix_d, fl_nil, fl_int, fl_str, fl_none, fl_bool, fl_tup, ofS_beq, String.reduceBEq, Bool.and_true, Bool.true_and, e_idx_s, e_idx_l, e_idx_t, e_sls, e_sll, hi_none, lo_none, le_line, le_lineI, rng_lo, fls_nil, fls_d, newL_d, fixT_d, S_length, Option.bind_eq_bind, Option.bind_some, Option.map_some, Option.bind_none, Option.map_none, if_true, if_false, Bool.false_eq_true, decide_eq_true_eq, List.map_cons, List.map_nil, List.length_cons, List.length_nil, and_self, and_true, true_and, true_or, or_true, not_true, not_false, List.mem_cons, List.not_mem_nil, or_false, false_or, or_self, String.reduceEq, reduceIte, ne_eq, Int.reduceLT, Int.reduceLE, Nat.reduceAdd, Nat.reduceLeDiff, Int.reducePow, Int.reduceNeg, Int.reduceBEq, Int.reduceEq, Int.reduceToNat, Int.reduceAdd, Int.reduceSub, Int.reduceMul, reduceCtorEq, Bool.not_true, Bool.not_false, Bool.not_eq_true], by simp only [run_eq, tst_eq, evl_eq, itr_eq, e_add, e_sub, e_mul_l, e_mul_r, e_div, e_mod, e_adds, e_addl, e_set, e_rho_nil, e_rho, e_fint, e_fstr, e_fnone, e_fbool, e_flist, e_ftup, e_rv, e_rl, e_rd, e_putd, e_puts, e_putRd, e_putRs, e_tup, e_putn, e_putc, e_thn, e_thr, e_lt, e_le, e_gt, e_ge, e_eqi, e_nei, e_eqs, e_nes, e_is, e_isnot, e_len_l, e_len_t, e_len_s, e_tb, e_ti, e_tl, e_tn, e_inc, fix_d, fl_nil, fl_int, fl_str, fl_none, fl_bool, fl_tup, ofS_beq, String.reduceBEq, Bool.and_true, Bool.true_and, e_idx_s, e_idx_l, e_idx_t, e_sls, e_sll, hi_none, lo_none, le_line, le_lineI, rng_lo, fls_nil, fls_d, newL_d, fixT_d, S_length, Option.bind_eq_bind, Option.bind_some, Option.map_some, Option.bind_none, Option.map_none, if_true, if_false, Bool.false_eq_true, decide_eq_true_eq, List.map_cons, List.map_nil, List.length_cons, List.length_nil, and_self, and_true, true_and, true_or, or_true, not_true, not_false, List.mem_cons, List.not_mem_nil, or_false, false_or, or_self, String.reduceEq, reduceIte, ne_eq, Int.reduceLT, Int.reduceLE, Nat.reduceAdd, Nat.reduceLeDiff, Int.reducePow, Int.reduceNeg, Int.reduceBEq, Int.reduceEq, Int.reduceToNat, Int.reduceAdd, Int.reduceSub, Int.reduceMul, reduceCtorEq, Bool.not_true, Bool.not_false, Bool.not_eq_true]⟩
  rintro ρ ⟨hm, hc, hp⟩
  by_cases h1 : sAt l 2 / 5 % 4 = 1
  · have hv : namesS l ps = (ps.map (·.1)).take (nmanyS l).toNat := if_pos h1
    refine seqRet (ifR_yes (by simp only [run_eq, tst_eq, evl_eq, itr_eq, e_add, e_sub, e_mul_l, e_mul_r, e_div, e_mod, e_adds, e_addl, e_set, e_rho_nil, e_rho, e_fint, e_fstr, e_fnone, e_fbool, e_flist, e_ftup, e_rv, e_rl, e_rd, e_putd, e_puts, e_putRd, e_putRs, e_tup, e_putn, e_putc, e_thn, e_thr, e_lt, e_le, e_gt, e_ge, e_eqi, e_nei, e_eqs, e_nes, e_is, e_isnot, e_len_l, e_len_t, e_len_s, e_tb, e_ti, e_tl, e_tn, e_inc, fix_d, fl_nil, fl_int, fl_str, fl_none, fl_bool, fl_tup, ofS_beq, String.reduceBEq, Bool.and_true, Bool.true_and, e_idx_s, e_idx_l, e_idx_t, e_sls, e_sll, hi_none, lo_none, le_line, le_lineI, rng_lo, fls_nil, fls_d, newL_d, fixT_d, S_length, Option.bind_eq_bind, Option.bind_some, Option.map_some, Option.bind_none, Option.map_none, if_true, if_false, Bool.false_eq_true, decide_eq_true_eq, List.map_cons, List.map_nil, List.length_cons, List.length_nil, and_self, and_true, true_and, true_or, or_true, not_true, not_false, List.mem_cons, List.not_mem_nil, or_false, false_or, or_self, String.reduceEq, reduceIte, ne_eq, Int.reduceLT, Int.reduceLE, Nat.reduceAdd, Nat.reduceLeDiff, Int.reducePow, Int.reduceNeg, Int.reduceBEq, Int.reduceEq, Int.reduceToNat, Int.reduceAdd, Int.reduceSub, Int.reduceMul, reduceCtorEq, Bool.not_true, Bool.not_false, Bool.not_eq_true, hc, h1]) (seqRet ?_))
    simp only [run_eq, tst_eq, evl_eq, itr_eq, e_add, e_sub, e_mul_l, e_mul_r, e_div, e_mod, e_adds, e_addl, e_set, e_rho_nil, e_rho, e_fint, e_fstr, e_fnone, e_fbool, e_flist, e_ftup, e_rv, e_rl, e_rd, e_putd, e_puts, e_putRd, e_putRs, e_tup, e_putn, e_putc, e_thn, e_thr, e_lt, e_le, e_gt, e_ge, e_eqi, e_nei, e_eqs, e_nes, e_is, e_isnot, e_len_l, e_len_t, e_len_s, e_tb, e_ti, e_tl, e_tn, e_inc, fix_d, fl_nil, fl_int, fl_str, fl_none, fl_bool, fl_tup, ofS_beq, String.reduceBEq, Bool.and_true, Bool.true_and, e_idx_s, e_idx_l, e_idx_t, e_sls, e_sll, hi_none, lo_none, le_line, le_lineI, rng_lo, fls_nil, fls_d, newL_d, fixT_d, S_length, Option.bind_eq_bind, Option.bind_some, Option.map_some, Option.bind_none, Option.map_none, if_true, if_false, Bool.false_eq_true, decide_eq_true_eq, List.map_cons, List.map_nil, List.length_cons, List.length_nil, and_self, and_true, true_and, true_or, or_true, not_true, not_false, List.mem_cons, List.not_mem_nil, or_false, false_or, or_self, String.reduceEq, reduceIte, ne_eq, Int.reduceLT, Int.reduceLE, Nat.reduceAdd, Nat.reduceLeDiff, Int.reducePow, Int.reduceNeg, Int.reduceBEq, Int.reduceEq, Int.reduceToNat, Int.reduceAdd, Int.reduceSub, Int.reduceMul, reduceCtorEq, Bool.not_true, Bool.not_false, Bool.not_eq_true, hp, compV, itemsOf]
    rw [comp_map plotP (fun p => .str (S p.1)) (fun p _ => by simp only [run_eq, tst_eq, evl_eq, itr_eq, e_add, e_sub, e_mul_l, e_mul_r, e_div, e_mod, e_adds, e_addl, e_set, e_rho_nil, e_rho, e_fint, e_fstr, e_fnone, e_fbool, e_flist, e_ftup, e_rv, e_rl, e_rd, e_putd, e_puts, e_putRd, e_putRs, e_tup, e_putn, e_putc, e_thn, e_thr, e_lt, e_le, e_gt, e_ge, e_eqi, e_nei, e_eqs, e_nes, e_is, e_isnot, e_len_l, e_len_t, e_len_s, e_tb, e_ti, e_tl, e_tn, e_inc, fix_d, fl_nil, fl_int, fl_str, fl_none, fl_bool, fl_tup, ofS_beq, String.reduceBEq, Bool.and_true, Bool.true_and, e_idx_s, e_idx_l, e_idx_t, e_sls, e_sll, hi_none, lo_none, le_line, le_lineI, rng_lo, fls_nil, fls_d, newL_d, fixT_d, S_length, Option.bind_eq_bind, Option.bind_some, Option.map_some, Option.bind_none, Option.map_none, if_true, if_false, Bool.false_eq_true, decide_eq_true_eq, List.map_cons, List.map_nil, List.length_cons, List.length_nil, and_self, and_true, true_and, true_or, or_true, not_true, not_false, List.mem_cons, List.not_mem_nil, or_false, false_or, or_self, String.reduceEq, reduceIte, ne_eq, Int.reduceLT, Int.reduceLE, Nat.reduceAdd, Nat.reduceLeDiff, Int.reducePow, Int.reduceNeg, Int.reduceBEq, Int.reduceEq, Int.reduceToNat, Int.reduceAdd, Int.reduceSub, Int.reduceMul, reduceCtorEq, Bool.not_true, Bool.not_false, Bool.not_eq_true, cstep, plotP, fl_opt])]
    simp only [run_eq, tst_eq, evl_eq, itr_eq, e_add, e_sub, e_mul_l, e_mul_r, e_div, e_mod, e_adds, e_addl, e_set, e_rho_nil, e_rho, e_fint, e_fstr, e_fnone, e_fbool, e_flist, e_ftup, e_rv, e_rl, e_rd, e_putd, e_puts, e_putRd, e_putRs, e_tup, e_putn, e_putc, e_thn, e_thr, e_lt, e_le, e_gt, e_ge, e_eqi, e_nei, e_eqs, e_nes, e_is, e_isnot, e_len_l, e_len_t, e_len_s, e_tb, e_ti, e_tl, e_tn, e_inc, fix_d, fl_nil, fl_int, fl_str, fl_none, fl_bool, fl_tup, ofS_beq, String.reduceBEq, Bool.and_true, Bool.true_and, e_idx_s, e_idx_l, e_idx_t, e_sls, e_sll, hi_none, lo_none, le_line, le_lineI, rng_lo, fls_nil, fls_d, newL_d, fixT_d, S_length, Option.bind_eq_bind, Option.bind_some, Option.map_some, Option.bind_none, Option.map_none, if_true, if_false, Bool.false_eq_true, decide_eq_true_eq, List.map_cons, List.map_nil, List.length_cons, List.length_nil, and_self, and_true, true_and, true_or, or_true, not_true, not_false, List.mem_cons, List.not_mem_nil, or_false, false_or, or_self, String.reduceEq, reduceIte, ne_eq, Int.reduceLT, Int.reduceLE, Nat.reduceAdd, Nat.reduceLeDiff, Int.reducePow, Int.reduceNeg, Int.reduceBEq, Int.reduceEq, Int.reduceToNat, Int.reduceAdd, Int.reduceSub, Int.reduceMul, reduceCtorEq, Bool.not_true, Bool.not_false, Bool.not_eq_true, hm, List.length_map]
    have e : ((ps.map fun p => PyData.str (S p.1)).take (clipHi (some (nmanyS l)) ps.length)).drop (clipLo none ps.length) = (namesS l ps).map strP := by
      rw [hv, lo_none, List.drop_zero, List.map_take, List.map_map]
      simp only [clipHi]
      rw [if_neg (by omega), show (fun p : List Nat × Option (List Nat) => PyData.str (S p.1)) = strP ∘ (fun p => p.1) from rfl]
      by_cases hle : (nmanyS l).toNat ≤ ps.length
      · rw [Nat.min_eq_left hle]
      · rw [Nat.min_eq_right (by omega), List.take_of_length_le (by simp), List.take_of_length_le (by simp; omega)]
    rw [lo_none] at e
    rw [e]
  · have hv : namesS l ps = (List.range (nmanyS l).toNat).map fun (k : Nat) => calledS (sAt l 2 / 80) k (signS k) := if_neg h1
    have h1' : (sAt l 2 / 5 % 4 == 1) = false := beq_eq_false_iff_ne.mpr h1
    refine seq (ifR_no (by simp only [run_eq, tst_eq, evl_eq, itr_eq, e_add, e_sub, e_mul_l, e_mul_r, e_div, e_mod, e_adds, e_addl, e_set, e_rho_nil, e_rho, e_fint, e_fstr, e_fnone, e_fbool, e_flist, e_ftup, e_rv, e_rl, e_rd, e_putd, e_puts, e_putRd, e_putRs, e_tup, e_putn, e_putc, e_thn, e_thr, e_lt, e_le, e_gt, e_ge, e_eqi, e_nei, e_eqs, e_nes, e_is, e_isnot, e_len_l, e_len_t, e_len_s, e_tb, e_ti, e_tl, e_tn, e_inc, fix_d, fl_nil, fl_int, fl_str, fl_none, fl_bool, fl_tup, ofS_beq, String.reduceBEq, Bool.and_true, Bool.true_and, e_idx_s, e_idx_l, e_idx_t, e_sls, e_sll, hi_none, lo_none, le_line, le_lineI, rng_lo, fls_nil, fls_d, newL_d, fixT_d, S_length, Option.bind_eq_bind, Option.bind_some, Option.map_some, Option.bind_none, Option.map_none, if_true, if_false, Bool.false_eq_true, decide_eq_true_eq, List.map_cons, List.map_nil, List.length_cons, List.length_nil, and_self, and_true, true_and, true_or, or_true, not_true, not_false, List.mem_cons, List.not_mem_nil, or_false, false_or, or_self, String.reduceEq, reduceIte, ne_eq, Int.reduceLT, Int.reduceLE, Nat.reduceAdd, Nat.reduceLeDiff, Int.reducePow, Int.reduceNeg, Int.reduceBEq, Int.reduceEq, Int.reduceToNat, Int.reduceAdd, Int.reduceSub, Int.reduceMul, reduceCtorEq, Bool.not_true, Bool.not_false, Bool.not_eq_true, hc, h1']) rfl) ?_
    refine seq (by simp only [run_eq, tst_eq, evl_eq, itr_eq, e_add, e_sub, e_mul_l, e_mul_r, e_div, e_mod, e_adds, e_addl, e_set, e_rho_nil, e_rho, e_fint, e_fstr, e_fnone, e_fbool, e_flist, e_ftup, e_rv, e_rl, e_rd, e_putd, e_puts, e_putRd, e_putRs, e_tup, e_putn, e_putc, e_thn, e_thr, e_lt, e_le, e_gt, e_ge, e_eqi, e_nei, e_eqs, e_nes, e_is, e_isnot, e_len_l, e_len_t, e_len_s, e_tb, e_ti, e_tl, e_tn, e_inc, fix_d, fl_nil, fl_int, fl_str, fl_none, fl_bool, fl_tup, ofS_beq, String.reduceBEq, Bool.and_true, Bool.true_and, e_idx_s, e_idx_l, e_idx_t, e_sls, e_sll, hi_none, lo_none, le_line, le_lineI, rng_lo, fls_nil, fls_d, newL_d, fixT_d, S_length, Option.bind_eq_bind, Option.bind_some, Option.map_some, Option.bind_none, Option.map_none, if_true, if_false, Bool.false_eq_true, decide_eq_true_eq, List.map_cons, List.map_nil, List.length_cons, List.length_nil, and_self, and_true, true_and, true_or, or_true, not_true, not_false, List.mem_cons, List.not_mem_nil, or_false, false_or, or_self, String.reduceEq, reduceIte, ne_eq, Int.reduceLT, Int.reduceLE, Nat.reduceAdd, Nat.reduceLeDiff, Int.reducePow, Int.reduceNeg, Int.reduceBEq, Int.reduceEq, Int.reduceToNat, Int.reduceAdd, Int.reduceSub, Int.reduceMul, reduceCtorEq, Bool.not_true, Bool.not_false, Bool.not_eq_true, ends_eq]; rfl) ?_
    refine seqRet ?_
    simp only [run_eq, tst_eq, evl_eq, itr_eq, e_add, e_sub, e_mul_l, e_mul_r, e_div, e_mod, e_adds, e_addl, e_set, e_rho_nil, e_rho, e_fint, e_fstr, e_fnone, e_fbool, e_flist, e_ftup, e_rv, e_rl, e_rd, e_putd, e_puts, e_putRd, e_putRs, e_tup, e_putn, e_putc, e_thn, e_thr, e_lt, e_le, e_gt, e_ge, e_eqi, e_nei, e_eqs, e_nes, e_is, e_isnot, e_len_l, e_len_t, e_len_s, e_tb, e_ti, e_tl, e_tn, e_inc, fix_d, fl_nil, fl_int, fl_str, fl_none, fl_bool, fl_tup, ofS_beq, String.reduceBEq, Bool.and_true, Bool.true_and, e_idx_s, e_idx_l, e_idx_t, e_sls, e_sll, hi_none, lo_none, le_line, le_lineI, rng_lo, fls_nil, fls_d, newL_d, fixT_d, S_length, Option.bind_eq_bind, Option.bind_some, Option.map_some, Option.bind_none, Option.map_none, if_true, if_false, Bool.false_eq_true, decide_eq_true_eq, List.map_cons, List.map_nil, List.length_cons, List.length_nil, and_self, and_true, true_and, true_or, or_true, not_true, not_false, List.mem_cons, List.not_mem_nil, or_false, false_or, or_self, String.reduceEq, reduceIte, ne_eq, Int.reduceLT, Int.reduceLE, Nat.reduceAdd, Nat.reduceLeDiff, Int.reducePow, Int.reduceNeg, Int.reduceBEq, Int.reduceEq, Int.reduceToNat, Int.reduceAdd, Int.reduceSub, Int.reduceMul, reduceCtorEq, Bool.not_true, Bool.not_false, Bool.not_eq_true, hm, compV, le_lineI (show nmanyS l ≤ 1000 by omega), rng_lo (show 0 ≤ nmanyS l by omega)]
    rw [comp_range (fun k => strP (calledS (sAt l 2 / 80) k (signS k))) (fun k hk => by
      have hcl := e_called (sAt l 2 / 80) k (signS k) (by omega) (by simp [signS]) (by simp [signS])
      have hs : aBinV .Add ⟨.str (S [97 + k / 26]), .d⟩ ⟨.str (S [122 - k % 26]), .d⟩ = some ⟨.str (S (signS k)), .d⟩ := e_addS (by simp)
      simp only [run_eq, tst_eq, evl_eq, itr_eq, e_add, e_sub, e_mul_l, e_mul_r, e_div, e_mod, e_adds, e_addl, e_set, e_rho_nil, e_rho, e_fint, e_fstr, e_fnone, e_fbool, e_flist, e_ftup, e_rv, e_rl, e_rd, e_putd, e_puts, e_putRd, e_putRs, e_tup, e_putn, e_putc, e_thn, e_thr, e_lt, e_le, e_gt, e_ge, e_eqi, e_nei, e_eqs, e_nes, e_is, e_isnot, e_len_l, e_len_t, e_len_s, e_tb, e_ti, e_tl, e_tn, e_inc, fix_d, fl_nil, fl_int, fl_str, fl_none, fl_bool, fl_tup, ofS_beq, String.reduceBEq, Bool.and_true, Bool.true_and, e_idx_s, e_idx_l, e_idx_t, e_sls, e_sll, hi_none, lo_none, le_line, le_lineI, rng_lo, fls_nil, fls_d, newL_d, fixT_d, S_length, Option.bind_eq_bind, Option.bind_some, Option.map_some, Option.bind_none, Option.map_none, if_true, if_false, Bool.false_eq_true, decide_eq_true_eq, List.map_cons, List.map_nil, List.length_cons, List.length_nil, and_self, and_true, true_and, true_or, or_true, not_true, not_false, List.mem_cons, List.not_mem_nil, or_false, false_or, or_self, String.reduceEq, reduceIte, ne_eq, Int.reduceLT, Int.reduceLE, Nat.reduceAdd, Nat.reduceLeDiff, Int.reducePow, Int.reduceNeg, Int.reduceBEq, Int.reduceEq, Int.reduceToNat, Int.reduceAdd, Int.reduceSub, Int.reduceMul, reduceCtorEq, Bool.not_true, Bool.not_false, Bool.not_eq_true, cstep, abc_eq, ends_at, abc_at (show k < 78 by omega), hc, hs, hcl, strP])]
    simp only [run_eq, tst_eq, evl_eq, itr_eq, e_add, e_sub, e_mul_l, e_mul_r, e_div, e_mod, e_adds, e_addl, e_set, e_rho_nil, e_rho, e_fint, e_fstr, e_fnone, e_fbool, e_flist, e_ftup, e_rv, e_rl, e_rd, e_putd, e_puts, e_putRd, e_putRs, e_tup, e_putn, e_putc, e_thn, e_thr, e_lt, e_le, e_gt, e_ge, e_eqi, e_nei, e_eqs, e_nes, e_is, e_isnot, e_len_l, e_len_t, e_len_s, e_tb, e_ti, e_tl, e_tn, e_inc, fix_d, fl_nil, fl_int, fl_str, fl_none, fl_bool, fl_tup, ofS_beq, String.reduceBEq, Bool.and_true, Bool.true_and, e_idx_s, e_idx_l, e_idx_t, e_sls, e_sll, hi_none, lo_none, le_line, le_lineI, rng_lo, fls_nil, fls_d, newL_d, fixT_d, S_length, Option.bind_eq_bind, Option.bind_some, Option.map_some, Option.bind_none, Option.map_none, if_true, if_false, Bool.false_eq_true, decide_eq_true_eq, List.map_cons, List.map_nil, List.length_cons, List.length_nil, and_self, and_true, true_and, true_or, or_true, not_true, not_false, List.mem_cons, List.not_mem_nil, or_false, false_or, or_self, String.reduceEq, reduceIte, ne_eq, Int.reduceLT, Int.reduceLE, Nat.reduceAdd, Nat.reduceLeDiff, Int.reducePow, Int.reduceNeg, Int.reduceBEq, Int.reduceEq, Int.reduceToNat, Int.reduceAdd, Int.reduceSub, Int.reduceMul, reduceCtorEq, Bool.not_true, Bool.not_false, Bool.not_eq_true, hv, List.map_map]
    rfl
end Mine

/-! text F08_row -/
set_option autoImplicit false
set_option maxRecDepth 100000
set_option maxHeartbeats 4000000
set_option linter.unusedSimpArgs false
set_option linter.unusedVariables false

namespace Mine
open PySem PySem.Calls
variable {w : World} {hb : Heap}
inductive Row where
  | op (p : List Nat)
  | lay (n p : List Nat) (i : Int)
  | copy (n o p : List Nat)
  | same (n o : List Nat)
  | add (n o : List Nat)
  | tell (n : List Nat)
  | give (p : List Nat)
  | fork (k : Int)
  | go (k : Int)
  | fin
noncomputable def Row.parts : Row → String × List PyData
  | .op p => ("open", [strP p])
  | .lay n p i => ("lay", [strP n, strP p, .int i])
  | .copy n o p => ("copy", [strP n, strP o, strP p])
  | .same n o => ("same", [strP n, strP o])
  | .add n o => ("add", [strP n, strP o])
  | .tell n => ("tell", [strP n])
  | .give p => ("give", [strP p])
  | .fork k => ("fork", [.int k])
  | .go k => ("go", [.int k])
  | .fin => ("end", [])
noncomputable def rowP (r : Row) : PyData := .tuple (.str (Str.ofString r.parts.1) :: r.parts.2)
noncomputable def moreS (c : Int) : Int := (c / 10 * 48271 + 11) % 1000003
noncomputable def numS (c : Int) : Int := if moreS c % 4 = 1 then c / 10 % 2000000000000000001 - 1000000000000000000 else c / 10 % 19 - 9
noncomputable def pickN (ns : List (List Nat)) (i : Int) : List Nat := (ns[(i % ns.length).toNat]?).getD []
noncomputable def pickP (ps : List (List Nat × Option (List Nat))) (i : Int) : List Nat := ((ps[(i % ps.length).toNat]?).getD ([], none)).1
noncomputable def rowK (k : Nat) (nm ot pl : List Nat) (num at' : Int) : Row :=
  match k with
  | 0 => .op pl
  | 1 => .lay nm pl num
  | 2 => .copy nm ot pl
  | 3 => .same nm ot
  | 4 => .add nm ot
  | 5 => .tell nm
  | 6 => .give pl
  | 7 => .fork at'
  | 8 => .go at'
  | _ => .fin
noncomputable def rowS (c : Int) (ps : List (List Nat × Option (List Nat))) (ns : List (List Nat)) (size : Int) : Row :=
  rowK (c % 10).toNat (pickN ns (moreS c)) (pickN ns (moreS c / 7)) (pickP ps (moreS c / 61)) (numS c) (moreS c / 1013 % (size + 1))
theorem pickN_at {ns : List (List Nat)} (h : 0 < ns.length) (i : Int) : seqAt (ns.map strP) (i % ns.length) = some (strP (pickN ns i)) := by
  have h1 := Int.emod_nonneg i (show (ns.length : Int) ≠ 0 by omega)
  have h2 := Int.emod_lt_of_pos i (show 0 < (ns.length : Int) by omega)
  rw [seqAt_nat h1, List.getElem?_map]
  unfold pickN
  rw [List.getElem?_eq_getElem (by omega)]; rfl
theorem pickP_at {ps : List (List Nat × Option (List Nat))} (h : 0 < ps.length) (i : Int) : ∃ o, seqAt (ps.map plotP) (i % ps.length) = some (plotP (pickP ps i, o)) := by
  have h1 := Int.emod_nonneg i (show (ps.length : Int) ≠ 0 by omega)
  have h2 := Int.emod_lt_of_pos i (show 0 < (ps.length : Int) by omega)
  refine ⟨((ps[(i % ps.length).toNat]?).getD ([], none)).2, ?_⟩
  rw [seqAt_nat h1, List.getElem?_map]
  unfold pickP
  rw [List.getElem?_eq_getElem (by omega)]; rfl
theorem row_ok (B : Bui hb) (D : DefAt hb "_law_row" (fnS pw 12) ["_law_cell", "_law_plots_here", "_law_names_here", "_law_size"] (fnB pw 12)) :
    ∃ m, DefG pw w hb 2 "_law_row" m ∧ ∀ (c : Int) (ps : List (List Nat × Option (List Nat))) (ns : List (List Nat)) (size : Int), 0 < ps.length → 0 < ns.length → 0 ≤ size →
      m [.int c, .list (ps.map plotP), .list (ns.map strP), .int size] = some (rowP (rowS c ps ns size)) := by
  refine ⟨_, DefG.of D (n := 1) (St.cons (S1.assign (Ev.bin (Ev.bin (Ev.bin (Ev.bin Ev.v Ev.cint) Ev.cint) Ev.cint) Ev.cint) (by decide +kernel))
    (St.cons (S1.assign (Ev.idx Ev.v (Ev.bin Ev.v (Ev.len B (Evs.cons Ev.v Evs.nil)))) (by decide +kernel))
    (St.cons (S1.assign (Ev.idx Ev.v (Ev.bin (Ev.bin Ev.v Ev.cint) (Ev.len B (Evs.cons Ev.v Evs.nil)))) (by decide +kernel))
    (St.cons (S1.assign (Ev.idx (Ev.idx Ev.v (Ev.bin (Ev.bin Ev.v Ev.cint) (Ev.len B (Evs.cons Ev.v Evs.nil)))) Ev.cint) (by decide +kernel))
    (St.cons (S1.assign (Ev.bin (Ev.bin (Ev.bin Ev.v Ev.cint) Ev.cint) Ev.cint) (by decide +kernel))
    (St.cons (S1.if (Tr.cmp (Ev.bin Ev.v Ev.cint) Ev.cint) (St.cons (S1.assign (Ev.bin (Ev.bin (Ev.bin Ev.v Ev.cint) Ev.cint) Ev.cint) (by decide +kernel))
      St.nil) St.nil)
    (St.cons (S1.assign (Ev.bin (Ev.bin Ev.v Ev.cint) (Ev.bin Ev.v Ev.cint)) (by decide +kernel))
    (St.cons (S1.assign (Ev.bin Ev.v Ev.cint) (by decide +kernel))
    (St.cons (S1.if (Tr.cmp Ev.v Ev.cint) (St.cons (S1.ret (Ev.idx (Ev.list (Evs.cons (Ev.tuple (Evs.cons Ev.s (Evs.cons Ev.v Evs.nil))) (Evs.cons (Ev.tuple (Evs.cons Ev.s (Evs.cons Ev.v (Evs.cons Ev.v (Evs.cons Ev.v Evs.nil))))) Evs.nil))) Ev.v))
      St.nil) St.nil)
    (St.cons (S1.if (Tr.cmp Ev.v Ev.cint) (St.cons (S1.ret (Ev.idx (Ev.list (Evs.cons (Ev.tuple (Evs.cons Ev.s (Evs.cons Ev.v (Evs.cons Ev.v (Evs.cons Ev.v Evs.nil))))) (Evs.cons (Ev.tuple (Evs.cons Ev.s (Evs.cons Ev.v (Evs.cons Ev.v Evs.nil)))) (Evs.cons (Ev.tuple (Evs.cons Ev.s (Evs.cons Ev.v (Evs.cons Ev.v Evs.nil)))) (Evs.cons (Ev.tuple (Evs.cons Ev.s (Evs.cons Ev.v Evs.nil))) Evs.nil))))) (Ev.bin Ev.v Ev.cint)))
      St.nil) St.nil)
    (St.cons (S1.ret (Ev.idx (Ev.list (Evs.cons (Ev.tuple (Evs.cons Ev.s (Evs.cons Ev.v Evs.nil))) (Evs.cons (Ev.tuple (Evs.cons Ev.s (Evs.cons Ev.v Evs.nil))) (Evs.cons (Ev.tuple (Evs.cons Ev.s (Evs.cons Ev.v Evs.nil))) (Evs.cons (Ev.tuple (Evs.cons Ev.s Evs.nil)) Evs.nil))))) (Ev.bin Ev.v Ev.cint)))
    St.nil))))))))))) _ (fun _ _ h => h), ?_⟩
  intro c ps ns size hp hn hz
  have hp' : (0 : Int) < (ps.length : Nat) := by omega
  have hn' : (0 : Int) < (ns.length : Nat) := by omega
  have hz' : 0 < size + 1 := by omega
  have n1 := pickN_at hn (moreS c)
  have n2 := pickN_at hn (moreS c / 7)
  obtain ⟨o, p1⟩ := pickP_at hp (moreS c / 61)
  have p2 : seqAt [PyData.str (S (pickP ps (moreS c / 61))), optP o] 0 = some (strP (pickP ps (moreS c / 61))) := rfl
  refine fn_ret rfl ?_
  refine seq (by simp only [run_eq, tst_eq, evl_eq, itr_eq, e_add, e_sub, e_mul_l, e_mul_r, e_div, e_mod, e_adds, e_addl, e_set, e_rho_nil, e_rho, e_fint, e_fstr, e_fnone, e_fbool, e_flist, e_ftup, e_rv, e_rl, e_rd, e_putd, e_puts, e_putRd, e_putRs, e_tup, e_putn, e_putc, e_thn, e_thr, e_lt, e_le, e_gt, e_ge, e_eqi, e_nei, e_eqs, e_nes, e_is, e_isnot, e_len_l, e_len_t, e_len_s, e_tb, e_ti, e_tl, e_tn, e_inc, fix_d, fl_nil, fl_int, fl_str, fl_none, fl_bool, fl_tup, ofS_beq, String.reduceBEq, Bool.and_true, Bool.true_and, e_idx_s, e_idx_l, e_idx_t, e_sls, e_sll, hi_none, lo_none, le_line, le_lineI, rng_lo, fls_nil, fls_d, newL_d, fixT_d, S_length, Option.bind_eq_bind, Option.bind_some, Option.map_some, Option.bind_none, Option.map_none, if_true, if_false, Bool.false_eq_true, decide_eq_true_eq, List.map_cons, List.map_nil, List.length_cons, List.length_nil, and_self, and_true, true_and, true_or, or_true, not_true, not_false, List.mem_cons, List.not_mem_nil, or_false, false_or, or_self, String.reduceEq, reduceIte, ne_eq, Int.reduceLT, Int.reduceLE, Nat.reduceAdd, Nat.reduceLeDiff, Int.reducePow, Int.reduceNeg, Int.reduceBEq, Int.reduceEq, Int.reduceToNat, Int.reduceAdd, Int.reduceSub, Int.reduceMul, reduceCtorEq, Bool.not_true, Bool.not_false, Bool.not_eq_true, show (c / 10 * 48271 + 11) % 1000003 = moreS c from rfl]; rfl) ?_
  refine seq (by simp only [run_eq, tst_eq, evl_eq, itr_eq, e_add, e_sub, e_mul_l, e_mul_r, e_div, e_mod, e_adds, e_addl, e_set, e_rho_nil, e_rho, e_fint, e_fstr, e_fnone, e_fbool, e_flist, e_ftup, e_rv, e_rl, e_rd, e_putd, e_puts, e_putRd, e_putRs, e_tup, e_putn, e_putc, e_thn, e_thr, e_lt, e_le, e_gt, e_ge, e_eqi, e_nei, e_eqs, e_nes, e_is, e_isnot, e_len_l, e_len_t, e_len_s, e_tb, e_ti, e_tl, e_tn, e_inc, fix_d, fl_nil, fl_int, fl_str, fl_none, fl_bool, fl_tup, ofS_beq, String.reduceBEq, Bool.and_true, Bool.true_and, e_idx_s, e_idx_l, e_idx_t, e_sls, e_sll, hi_none, lo_none, le_line, le_lineI, rng_lo, fls_nil, fls_d, newL_d, fixT_d, S_length, Option.bind_eq_bind, Option.bind_some, Option.map_some, Option.bind_none, Option.map_none, if_true, if_false, Bool.false_eq_true, decide_eq_true_eq, List.map_cons, List.map_nil, List.length_cons, List.length_nil, and_self, and_true, true_and, true_or, or_true, not_true, not_false, List.mem_cons, List.not_mem_nil, or_false, false_or, or_self, String.reduceEq, reduceIte, ne_eq, Int.reduceLT, Int.reduceLE, Nat.reduceAdd, Nat.reduceLeDiff, Int.reducePow, Int.reduceNeg, Int.reduceBEq, Int.reduceEq, Int.reduceToNat, Int.reduceAdd, Int.reduceSub, Int.reduceMul, reduceCtorEq, Bool.not_true, Bool.not_false, Bool.not_eq_true, List.length_map, e_mod hn', n1]; rfl) ?_
  refine seq (by simp only [run_eq, tst_eq, evl_eq, itr_eq, e_add, e_sub, e_mul_l, e_mul_r, e_div, e_mod, e_adds, e_addl, e_set, e_rho_nil, e_rho, e_fint, e_fstr, e_fnone, e_fbool, e_flist, e_ftup, e_rv, e_rl, e_rd, e_putd, e_puts, e_putRd, e_putRs, e_tup, e_putn, e_putc, e_thn, e_thr, e_lt, e_le, e_gt, e_ge, e_eqi, e_nei, e_eqs, e_nes, e_is, e_isnot, e_len_l, e_len_t, e_len_s, e_tb, e_ti, e_tl, e_tn, e_inc, fix_d, fl_nil, fl_int, fl_str, fl_none, fl_bool, fl_tup, ofS_beq, String.reduceBEq, Bool.and_true, Bool.true_and, e_idx_s, e_idx_l, e_idx_t, e_sls, e_sll, hi_none, lo_none, le_line, le_lineI, rng_lo, fls_nil, fls_d, newL_d, fixT_d, S_length, Option.bind_eq_bind, Option.bind_some, Option.map_some, Option.bind_none, Option.map_none, if_true, if_false, Bool.false_eq_true, decide_eq_true_eq, List.map_cons, List.map_nil, List.length_cons, List.length_nil, and_self, and_true, true_and, true_or, or_true, not_true, not_false, List.mem_cons, List.not_mem_nil, or_false, false_or, or_self, String.reduceEq, reduceIte, ne_eq, Int.reduceLT, Int.reduceLE, Nat.reduceAdd, Nat.reduceLeDiff, Int.reducePow, Int.reduceNeg, Int.reduceBEq, Int.reduceEq, Int.reduceToNat, Int.reduceAdd, Int.reduceSub, Int.reduceMul, reduceCtorEq, Bool.not_true, Bool.not_false, Bool.not_eq_true, List.length_map, e_mod hn', n2]; rfl) ?_
  refine seq (by simp only [run_eq, tst_eq, evl_eq, itr_eq, e_add, e_sub, e_mul_l, e_mul_r, e_div, e_mod, e_adds, e_addl, e_set, e_rho_nil, e_rho, e_fint, e_fstr, e_fnone, e_fbool, e_flist, e_ftup, e_rv, e_rl, e_rd, e_putd, e_puts, e_putRd, e_putRs, e_tup, e_putn, e_putc, e_thn, e_thr, e_lt, e_le, e_gt, e_ge, e_eqi, e_nei, e_eqs, e_nes, e_is, e_isnot, e_len_l, e_len_t, e_len_s, e_tb, e_ti, e_tl, e_tn, e_inc, fix_d, fl_nil, fl_int, fl_str, fl_none, fl_bool, fl_tup, ofS_beq, String.reduceBEq, Bool.and_true, Bool.true_and, e_idx_s, e_idx_l, e_idx_t, e_sls, e_sll, hi_none, lo_none, le_line, le_lineI, rng_lo, fls_nil, fls_d, newL_d, fixT_d, S_length, Option.bind_eq_bind, Option.bind_some, Option.map_some, Option.bind_none, Option.map_none, if_true, if_false, Bool.false_eq_true, decide_eq_true_eq, List.map_cons, List.map_nil, List.length_cons, List.length_nil, and_self, and_true, true_and, true_or, or_true, not_true, not_false, List.mem_cons, List.not_mem_nil, or_false, false_or, or_self, String.reduceEq, reduceIte, ne_eq, Int.reduceLT, Int.reduceLE, Nat.reduceAdd, Nat.reduceLeDiff, Int.reducePow, Int.reduceNeg, Int.reduceBEq, Int.reduceEq, Int.reduceToNat, Int.reduceAdd, Int.reduceSub, Int.reduceMul, reduceCtorEq, Bool.not_true, Bool.not_false, Bool.not_eq_true, List.length_map, e_mod hp', p1, plotP, fl_opt, p2]; rfl) ?_
  refine seq (by simp only [run_eq, tst_eq, evl_eq, itr_eq, e_add, e_sub, e_mul_l, e_mul_r, e_div, e_mod, e_adds, e_addl, e_set, e_rho_nil, e_rho, e_fint, e_fstr, e_fnone, e_fbool, e_flist, e_ftup, e_rv, e_rl, e_rd, e_putd, e_puts, e_putRd, e_putRs, e_tup, e_putn, e_putc, e_thn, e_thr, e_lt, e_le, e_gt, e_ge, e_eqi, e_nei, e_eqs, e_nes, e_is, e_isnot, e_len_l, e_len_t, e_len_s, e_tb, e_ti, e_tl, e_tn, e_inc, fix_d, fl_nil, fl_int, fl_str, fl_none, fl_bool, fl_tup, ofS_beq, String.reduceBEq, Bool.and_true, Bool.true_and, e_idx_s, e_idx_l, e_idx_t, e_sls, e_sll, hi_none, lo_none, le_line, le_lineI, rng_lo, fls_nil, fls_d, newL_d, fixT_d, S_length, Option.bind_eq_bind, Option.bind_some, Option.map_some, Option.bind_none, Option.map_none, if_true, if_false, Bool.false_eq_true, decide_eq_true_eq, List.map_cons, List.map_nil, List.length_cons, List.length_nil, and_self, and_true, true_and, true_or, or_true, not_true, not_false, List.mem_cons, List.not_mem_nil, or_false, false_or, or_self, String.reduceEq, reduceIte, ne_eq, Int.reduceLT, Int.reduceLE, Nat.reduceAdd, Nat.reduceLeDiff, Int.reducePow, Int.reduceNeg, Int.reduceBEq, Int.reduceEq, Int.reduceToNat, Int.reduceAdd, Int.reduceSub, Int.reduceMul, reduceCtorEq, Bool.not_true, Bool.not_false, Bool.not_eq_true]; rfl) ?_
  refine seqE (fun ρ => ρ "_law_number" = some (.val ⟨.int (numS c), .d⟩) ∧ ρ "_law_name" = some (.val ⟨strP (pickN ns (moreS c)), .d⟩) ∧ ρ "_law_other" = some (.val ⟨strP (pickN ns (moreS c / 7)), .d⟩) ∧ ρ "_law_plot" = some (.val ⟨strP (pickP ps (moreS c / 61)), .d⟩) ∧
    ρ "_law_more" = some (.val ⟨.int (moreS c), .d⟩) ∧ ρ "_law_cell" = some (.val ⟨.int c, .d⟩) ∧ ρ "_law_size" = some (.val ⟨.int size, .d⟩)) ?_ ?_
  · by_cases h0 : moreS c % 4 = 1
    · have hv : numS c = c / 10 % 2000000000000000001 - 1000000000000000000 := if_pos h0
      exact ⟨_, by simp only [run_eq, tst_eq, evl_eq, itr_eq, e_add, e_sub, e_mul_l, e_mul_r, e_div, e_mod, e_adds, e_addl, e_set, e_rho_nil, e_rho, e_fint, e_fstr, e_fnone, e_fbool, e_flist, e_ftup, e_rv, e_rl, e_rd, e_putd, e_puts, e_putRd, e_putRs, e_tup, e_putn, e_putc, e_thn, e_thr, e_lt, e_le, e_gt, e_ge, e_eqi, e_nei, e_eqs, e_nes, e_is, e_isnot, e_len_l, e_len_t, e_len_s, e_tb, e_ti, e_tl, e_tn, e_inc, fix_d, fl_nil, fl_int, fl_str, fl_none, fl_bool, fl_tup, ofS_beq, String.reduceBEq, Bool.and_true, Bool.true_and, e_idx_s, e_idx_l, e_idx_t, e_sls, e_sll, hi_none, lo_none, le_line, le_lineI, rng_lo, fls_nil, fls_d, newL_d, fixT_d, S_length, Option.bind_eq_bind, Option.bind_some, Option.map_some, Option.bind_none, Option.map_none, if_true, if_false, Bool.false_eq_true, decide_eq_true_eq, List.map_cons, List.map_nil, List.length_cons, List.length_nil, and_self, and_true, true_and, true_or, or_true, not_true, not_false, List.mem_cons, List.not_mem_nil, or_false, false_or, or_self, String.reduceEq, reduceIte, ne_eq, Int.reduceLT, Int.reduceLE, Nat.reduceAdd, Nat.reduceLeDiff, Int.reducePow, Int.reduceNeg, Int.reduceBEq, Int.reduceEq, Int.reduceToNat, Int.reduceAdd, Int.reduceSub, Int.reduceMul, reduceCtorEq, Bool.not_true, Bool.not_false, Bool.not_eq_true, h0]; rfl, by simp only [run_eq, tst_eq, evl_eq, itr_eq, e_add, e_sub, e_mul_l, e_mul_r, e_div, e_mod, e_adds, e_addl, e_set, e_rho_nil, e_rho, e_fint, e_fstr, e_fnone, e_fbool, e_flist, e_ftup, e_rv, e_rl, e_rd, e_putd, e_puts, e_putRd, e_putRs, e_tup, e_putn, e_putc, e_thn, e_thr, e_lt, e_le, e_gt, e_ge, e_eqi, e_nei, e_eqs, e_nes, e_is, e_isnot, e_len_l, e_len_t, e_len_s, e_tb, e_ti, e_tl, e_tn, e_inc, fix_d, fl_nil, fl_int, fl_str, fl_none, fl_bool, fl_tup, ofS_beq, String.reduceBEq, Bool.and_true, Bool.true_and, e_idx_s, e_idx_l, e_idx_t, e_sls, e_sll, hi_none, lo_none, le_line, le_lineI, rng_lo, fls_nil, fls_d, newL_d, fixT_d, S_length, Option.bind_eq_bind, Option.bind_some, Option.map_some, Option.bind_none, Option.map_none, if_true, if_false, Bool.false_eq_true, decide_eq_true_eq, List.map_cons, List.map_nil, List.length_cons, List.length_nil, and_self, and_true, true_and, true_or, or_true, not_true, not_false, List.mem_cons, List.not_mem_nil, or_false, false_or, or_self, String.reduceEq, reduceIte, ne_eq, Int.reduceLT, Int.reduceLE, Nat.reduceAdd, Nat.reduceLeDiff, Int.reducePow, Int.reduceNeg, Int.reduceBEq, Int.reduceEq, Int.reduceToNat, Int.reduceAdd, Int.reduceSub, Int.reduceMul, reduceCtorEq, Bool.not_true, Bool.not_false, Bool.not_eq_true, hv], by simp only [run_eq, tst_eq, evl_eq, itr_eq, e_add, e_sub, e_mul_l, e_mul_r, e_div, e_mod, e_adds, e_addl, e_set, e_rho_nil, e_rho, e_fint, e_fstr, e_fnone, e_fbool, e_flist, e_ftup, e_rv, e_rl, e_rd, e_putd, e_puts, e_putRd, e_putRs, e_tup, e_putn, e_putc, e_thn, e_thr, e_lt, e_le, e_gt, e_ge, e_eqi, e_nei, e_eqs, e_nes, e_is, e_isnot, e_len_l, e_len_t, e_len_s, e_tb, e_ti, e_tl, e_tn, e_inc, fix_d, fl_nil, fl_int, fl_str, fl_none, fl_bool, fl_tup, ofS_beq, String.reduceBEq, Bool.and_true, Bool.true_and, e_idx_s, e_idx_l, e_idx_t, e_sls, e_sll, hi_none, lo_none, le_line, le_lineI, rng_lo, fls_nil, fls_d, newL_d, fixT_d, S_length, Option.bind_eq_bind, Option.bind_some, Option.map_some, Option.bind_none, Option.map_none, if_true, if_false, Bool.false_eq_true, decide_eq_true_eq, List.map_cons, List.map_nil, List.length_cons, List.length_nil, and_self, and_true, true_and, true_or, or_true, not_true, not_false, List.mem_cons, List.not_mem_nil, or_false, false_or, or_self, String.reduceEq, reduceIte, ne_eq, Int.reduceLT, Int.reduceLE, Nat.reduceAdd, Nat.reduceLeDiff, Int.reducePow, Int.reduceNeg, Int.reduceBEq, Int.reduceEq, Int.reduceToNat, Int.reduceAdd, Int.reduceSub, Int.reduceMul, reduceCtorEq, Bool.not_true, Bool.not_false, Bool.not_eq_true], by simp only [run_eq, tst_eq, evl_eq, itr_eq, e_add, e_sub, e_mul_l, e_mul_r, e_div, e_mod, e_adds, e_addl, e_set, e_rho_nil, e_rho, e_fint, e_fstr, e_fnone, e_fbool, e_flist, e_ftup, e_rv, e_rl, e_rd, e_putd, e_puts, e_putRd, e_putRs, e_tup, e_putn, e_putc, e_thn, e_thr, e_lt, e_le, e_gt, e_ge, e_eqi, e_nei, e_eqs, e_nes, e_is, e_isnot, e_len_l, e_len_t, e_len_s, e_tb, e_ti, e_tl, e_tn, e_inc, fix_d, fl_nil, fl_int, fl_str, fl_none, fl_bool, fl_tup, ofS_beq, String.reduceBEq, Bool.and_true, Bool.true_and, e_idx_s, e_idx_l, e_idx_t, e_sls, e_sll, hi_none, lo_none, le_line, le_lineI, rng_lo, fls_nil, fls_d, newL_d, fixT_d, S_length, Option.bind_eq_bind, Option.bind_some, Option.map_some, Option.bind_none, Option.map_none, if_true, if_false, Bool.false_eq_true, decide_eq_true_eq, List.map_cons, List.map_nil, List.length_cons, List.length_nil, and_self, and_true, true_and, true_or, or_true, not_true, not_false, List.mem_cons, List.not_mem_nil, or_false, false_or, or_self, String.reduceEq, reduceIte, ne_eq, Int.reduceLT, Int.reduceLE, Nat.reduceAdd, Nat.reduceLeDiff, Int.reducePow, Int.reduceNeg, Int.reduceBEq, Int.reduceEq, Int.reduceToNat, Int.reduceAdd, Int.reduceSub, Int.reduceMul, reduceCtorEq, Bool.not_true, Bool.not_false, Bool.not_eq_true], by simp only [run_eq, tst_eq, evl_eq, itr_eq, e_add, e_sub, e_mul_l, e_mul_r, e_div, e_mod, e_adds, e_addl, e_set, e_rho_nil, e_rho, e_fint, e_fstr, e_fnone, e_fbool, e_flist, e_ftup, e_rv, e_rl, e_rd, e_putd, e_puts, e_putRd, e_putRs, e_tup, e_putn, e_putc, e_thn, e_thr, e_lt, e_le, e_gt, e_ge, e_eqi, e_nei, e_eqs, e_nes, e_is, e_isnot, e_len_l, e_len_t, e_len_s, e_tb, e_ti, e_tl, e_tn, e_inc, fix_d, fl_nil, fl_int, fl_str, fl_none, fl_bool, fl_tup, ofS_beq, String.reduceBEq, Bool.and_true, Bool.true_and, e_idx_s, e_idx_l, e_idx_t, e_sls, e_sll, hi_none, lo_none, le_line, le_lineI, rng_lo, fls_nil, fls_d, newL_d, fixT_d, S_length, Option.bind_eq_bind, Option.bind_some, Option.map_some, Option.bind_none, Option.map_none, if_true, if_false, Bool.false_eq_true, decide_eq_true_eq, List.map_cons, List.map_nil, List.length_cons, List.length_nil, and_self, and_true, true_and, true_or, or_true, not_true, not_false, List.mem_cons, List.not_mem_nil, or_false, false_or, or_self, String.reduceEq, reduceIte, ne_eq, Int.reduceLT, Int.reduceLE, Nat.reduceAdd, Nat.reduceLeDiff, Int.reducePow, Int.reduceNeg, Int.reduceBEq, Int.reduceEq, Int.reduceToNat, Int.reduceAdd, Int.reduceSub, Int.reduceMul, reduceCtorEq, Bool.not_true, Bool.not_false, Bool.not_eq_true], by simp only [run_eq, tst_eq, evl_eq, itr_eq, e_add, e_sub, e_mul_l, e_mul_r, e_div, e_mod, e_adds, e_addl, e_set, e_rho_nil, e_rho, e_fint, e_fstr, e_fnone, e_fbool, e_flist, e_ftup, e_rv, e_rl, e_rd, e_putd, e_puts, e_putRd, e_putRs, e_tup, e_putn, e_putc, e_thn, e_thr, e_lt, e_le, e_gt, e_ge, e_eqi, e_nei, e_eqs, e_nes, e_is, e_isnot, e_len_l, e_len_t, e_len_s, e_tb, e_ti, e_tl, e_tn, e_inc, fix_d, fl_nil, fl_int, fl_str, fl_none, fl_bool, fl_tup, ofS_beq, String.reduceBEq, Bool.and_true, Bool.true_and, e_idx_s, e_idx_l, e_idx_t, e_sls, e_sll, hi_none, lo_none, le_line, le_lineI, rng_lo, fls_nil, fls_d, newL_d, fixT_d, S_length, Option.bind_eq_bind, Option.bind_some, Option.map_some, Option.bind_none, Option.map_none, if_true, if_false, Bool.false_eq_true, decide_eq_true_eq, List.map_cons, List.map_nil, List.length_cons, List.length_nil, and_self, and_true, true_and, true_or, or_true, not_true, not_false, List.mem_cons, List.not_mem_nil, or_false, false_or, or_self, String.reduceEq, reduceIte, ne_eq, Int.reduceLT, Int.reduceLE, Nat.reduceAdd, Nat.reduceLeDiff, Int.reducePow, Int.reduceNeg, Int.reduceBEq, Int.reduceEq, Int.reduceToNat, Int.reduceAdd, Int.reduceSub, Int.reduceMul, reduceCtorEq, Bool.not_true, Bool.not_false, Bool.not_eq_true], by simp only [run_eq, tst_eq, evl_eq, itr_eq, e_add, e_sub, e_mul_l, e_mul_r, e_div, e_mod, e_adds, e_addl, e_set, e_rho_nil, e_rho, e_fint, e_fstr, e_fnone, e_fbool, e_flist, e_ftup, e_rv, e_rl, e_rd, e_putd, e_puts, e_putRd, e_putRs, e_tup, e_putn, e_putc, e_thn, e_thr, e_lt, e_le, e_gt, e_ge, e_eqi, e_nei, e_eqs, e_nes, e_is, e_isnot, e_len_l, e_len_t, e_len_s, e_tb, e_ti, e_tl, e_tn, e_inc, fix_d, fl_nil, fl_int, fl_str, fl_none, fl_bool, fl_tup, ofS_beq, String.reduceBEq, Bool.and_true, Bool.true_and, e_idx_s, e_idx_l, e_idx_t, e_sls, e_sll, hi_none, lo_none, le_line, le_lineI, rng_lo, fls_nil, fls_d, newL_d, fixT_d, S_length, Option.bind_eq_bind, Option.bind_some, Option.map_some, Option.bind_none, Option.map_none, if_true, if_false, Bool.false_eq_true, decide_eq_true_eq, List.map_cons, List.map_nil, List.length_cons, List.length_nil, and_self, and_true, true_and, true_or, or_true, not_true, not_false, List.mem_cons, List.not_mem_nil, or_false, false_or, or_self, String.reduceEq, reduceIte, ne_eq, Int.reduceLT, Int.reduceLE, Nat.reduceAdd, Nat.reduceLeDiff, Int.reducePow, Int.reduceNeg, Int.reduceBEq, Int.reduceEq, Int.reduceToNat, Int.reduceAdd, Int.reduceSub, Int.reduceMul, reduceCtorEq, Bool.not_true, Bool.not_false, Bool.not_eq_true], by simp only [run_eq, tst_eq, evl_eq, itr_eq, e_add, e_sub, e_mul_l, e_mul_r, e_div, e_mod, e_adds, e_addl, e_set, e_rho_nil, e_rho, e_fint, e_fstr, e_fnone, e_fbool, e_flist, e_ftup, e_rv, e_rl, e_rd, e_putd, e_puts, e_putRd, e_putRs, e_tup, e_putn, e_putc, e_thn, e_thr, e_lt, e_le, e_gt, e_ge, e_eqi, e_nei, e_eqs, e_nes, e_is, e_isnot, e_len_l, e_len_t, e_len_s, e_tb, e_ti, e_tl, e_tn, e_inc, fix_d, fl_nil, fl_int, fl_str, fl_none, fl_bool, fl_tup, ofS_beq, String.reduceBEq, Bool.and_true, Bool.true_and, e_idx_s, e_idx_l, e_idx_t, e_sls, e_sll, hi_none, lo_none, le_line, le_lineI, rng_lo, fls_nil, fls_d, newL_d, fixT_d, S_length, Option.bind_eq_bind, Option.bind_some, Option.map_some, Option.bind_none, Option.map_none, if_true, if_false, Bool.false_eq_true, decide_eq_true_eq, List.map_cons, List.map_nil, List.length_cons, List.length_nil, and_self, and_true, true_and, true_or, or_true, not_true, not_false, List.mem_cons, List.not_mem_nil, or_false, false_or, or_self, String.reduceEq, reduceIte, ne_eq, Int.reduceLT, Int.reduceLE, Nat.reduceAdd, Nat.reduceLeDiff, Int.reducePow, Int.reduceNeg, Int.reduceBEq, Int.reduceEq, Int.reduceToNat, Int.reduceAdd, Int.reduceSub, Int.reduceMul, reduceCtorEq, Bool.not_true, Bool.not_false, Bool.not_eq_true]⟩
    · have hv : numS c = c / 10 % 19 - 9 := if_neg h0
      have h0' : (moreS c % 4 == 1) = false := beq_eq_false_iff_ne.mpr h0
      exact ⟨_, by simp only [run_eq, tst_eq, evl_eq, itr_eq, e_add, e_sub, e_mul_l, e_mul_r, e_div, e_mod, e_adds, e_addl, e_set, e_rho_nil, e_rho, e_fint, e_fstr, e_fnone, e_fbool, e_flist, e_ftup, e_rv, e_rl, e_rd, e_putd, e_puts, e_putRd, e_putRs, e_tup, e_putn, e_putc, e_thn, e_thr, e_lt, e_le, e_gt, e_ge, e_eqi, e_nei, e_eqs, e_nes, e_is, e_isnot, e_len_l, e_len_t, e_len_s, e_tb, e_ti, e_tl, e_tn, e_inc, fix_d, fl_nil, fl_int, fl_str, fl_none, fl_bool, fl_tup, ofS_beq, String.reduceBEq, Bool.and_true, Bool.true_and, e_idx_s, e_idx_l, e_idx_t, e_sls, e_sll, hi_none, lo_none, le_line, le_lineI, rng_lo, fls_nil, fls_d, newL_d, fixT_d, S_length, Option.bind_eq_bind, Option.bind_some, Option.map_some, Option.bind_none, Option.map_none, if_true, if_false, Bool.false_eq_true, decide_eq_true_eq, List.map_cons, List.map_nil, List.length_cons, List.length_nil, and_self, and_true, true_and, true_or, or_true, not_true, not_false, List.mem_cons, List.not_mem_nil, or_false, false_or, or_self, String.reduceEq, reduceIte, ne_eq, Int.reduceLT, Int.reduceLE, Nat.reduceAdd, Nat.reduceLeDiff, Int.reducePow, Int.reduceNeg, Int.reduceBEq, Int.reduceEq, Int.reduceToNat, Int.reduceAdd, Int.reduceSub, Int.reduceMul, reduceCtorEq, Bool.not_true, Bool.not_false, Bool.not_eq_true, h0']; rfl, by simp only [run_eq, tst_eq, evl_eq, itr_eq, e_add, e_sub, e_mul_l, e_mul_r, e_div, e_mod, e_adds, e_addl, e_set, e_rho_nil, e_rho, e_fint, e_fstr, e_fnone, e_fbool, e_flist, e_ftup, e_rv, e_rl, e_rd, e_putd, e_puts, e_putRd, e_putRs, e_tup, e_putn, e_putc, e_thn, e_thr, e_lt, e_le, e_gt, e_ge, e_eqi, e_nei, e_eqs, e_nes, e_is, e_isnot, e_len_l, e_len_t, e_len_s, e_tb, e_ti, e_tl, e_tn, e_inc, fix_d, fl_nil, fl_int, fl_str, fl_none, fl_bool, fl_tup, ofS_beq, String.reduceBEq, Bool.and_true, Bool.true_and, e_idx_s, e_idx_l, e_idx_t, e_sls, e_sll, hi_none, lo_none, le_line, le_lineI, rng_lo, fls_nil, fls_d, newL_d, fixT_d, S_length, Option.bind_eq_bind, Option.bind_some, Option.map_some, Option.bind_none, Option.map_none, if_true, if_false, Bool.false_eq_true, decide_eq_true_eq, List.map_cons, List.map_nil, List.length_cons, List.length_nil, and_self, and_true, true_and, true_or, or_true, not_true, not_false, List.mem_cons, List.not_mem_nil, or_false, false_or, or_self, String.reduceEq, reduceIte, ne_eq, Int.reduceLT, Int.reduceLE, Nat.reduceAdd, Nat.reduceLeDiff, Int.reducePow, Int.reduceNeg, Int.reduceBEq, Int.reduceEq, Int.reduceToNat, Int.reduceAdd, Int.reduceSub, Int.reduceMul, reduceCtorEq, Bool.not_true, Bool.not_false, Bool.not_eq_true, hv], by simp only [run_eq, tst_eq, evl_eq, itr_eq, e_add, e_sub, e_mul_l, e_mul_r, e_div, e_mod, e_adds, e_addl, e_set, e_rho_nil, e_rho, e_fint, e_fstr, e_fnone, e_fbool, e_flist, e_ftup, e_rv, e_rl, e_rd, e_putd, e_puts, e_putRd, e_putRs, e_tup, e_putn, e_putc, e_thn, e_thr, e_lt, e_le, e_gt, e_ge, e_eqi, e_nei, e_eqs, e_nes, e_is, e_isnot, e_len_l, e_len_t, e_len_s, e_tb, e_ti, e_tl, e_tn, e_inc, fix_d, fl_nil, fl_int, fl_str, fl_none, fl_bool, fl_tup, ofS_beq, String.reduceBEq, Bool.and_true, Bool.true_and, e_idx_s, e_idx_l, e_idx_t, e_sls, e_sll, hi_none, lo_none, le_line, le_lineI, rng_lo, fls_nil, fls_d, newL_d, fixT_d, S_length, Option.bind_eq_bind, Option.bind_some, Option.map_some, Option.bind_none, Option.map_none, if_true, if_false, Bool.false_eq_true, decide_eq_true_eq, List.map_cons, List.map_nil, List.length_cons, List.length_nil, and_self, and_true, true_and, true_or, or_true, not_true, not_false, List.mem_cons, List.not_mem_nil, or_false, false_or, or_self, String.reduceEq, reduceIte, ne_eq, Int.reduceLT, Int.reduceLE, Nat.reduceAdd, Nat.reduceLeDiff, Int.reducePow, Int.reduceNeg, Int.reduceBEq, Int.reduceEq, Int.reduceToNat, Int.reduceAdd, Int.reduceSub, Int.reduceMul, reduceCtorEq, Bool.not_true, Bool.not_false, Bool.not_eq_true], by simp only [run_eq, tst_eq, evl_eq, itr_eq, e_add, e_sub, e_mul_l, e_mul_r, e_div, e_mod, e_adds, e_addl, e_set, e_rho_nil, e_rho, e_fint, e_fstr, e_fnone, e_fbool, e_flist, e_ftup, e_rv, e_rl, e_rd, e_putd, e_puts, e_putRd, e_putRs, e_tup, e_putn, e_putc, e_thn, e_thr, e_lt, e_le, e_gt, e_ge, e_eqi, e_nei, e_eqs, e_nes, e_is, e_isnot, e_len_l, e_len_t, e_len_s, e_tb, e_ti, e_tl, e_tn, e_inc, fix_d, fl_nil, fl_int, fl_str, fl_none, fl_bool, fl_tup, ofS_beq, String.reduceBEq, Bool.and_true, Bool.true_and, e_idx_s, e_idx_l, e_idx_t, e_sls, e_sll, hi_none, lo_none, le_line, le_lineI, rng_lo, fls_nil, fls_d, newL_d, fixT_d, S_length, Option.bind_eq_bind, Option.bind_some, Option.map_some, Option.bind_none, Option.map_none, if_true, if_false, Bool.false_eq_true, decide_eq_true_eq, List.map_cons, List.map_nil, List.length_cons, List.length_nil, and_self, and_true, true_and, true_or, or_true, not_true, not_false, List.mem_cons, List.not_mem_nil, or_false, false_or, or_self, String.reduceEq, reduceIte, ne_eq, Int.reduceLT, Int.reduceLE, Nat.reduceAdd, Nat.reduceLeDiff, Int.reducePow, Int.reduceNeg, Int.reduceBEq, Int.reduceEq, Int.reduceToNat, Int.reduceAdd, Int.reduceSub, Int.reduceMul, reduceCtorEq, Bool.not_true, Bool.not_false, Bool.not_eq_true], by simp only [run_eq, tst_eq, evl_eq, itr_eq, e_add, e_sub, e_mul_l, e_mul_r, e_div, e_mod, e_adds, e_addl, e_set, e_rho_nil, e_rho, e_fint, e_fstr, e_fnone, e_fbool, e_flist, e_ftup, e_rv, e_rl, e_rd, e_putd, e_puts, e_putRd, e_putRs, e_tup, e_putn, e_putc, e_thn, e_thr, e_lt, e_le, e_gt, e_ge, e_eqi, e_nei, e_eqs, e_nes, e_is, e_isnot, e_len_l, e_len_t, e_len_s, e_tb, e_ti, e_tl, e_tn, e_inc, fix_d, fl_nil, fl_int, fl_str, fl_none, fl_bool, fl_tup, ofS_beq, String.reduceBEq, Bool.and_true, Bool.true_and, e_idx_s, e_idx_l, e_idx_t, e_sls, e_sll, hi_none, lo_none, le_line, le_lineI, rng_lo, fls_nil, fls_d, newL_d, fixT_d, S_length, Option.bind_eq_bind, Option.bind_some, Option.map_some, Option.bind_none, Option.map_none, if_true, if_false, Bool.false_eq_true, decide_eq_true_eq, List.map_cons, List.map_nil, List.length_cons, List.length_nil, and_self, and_true, true_and, true_or, or_true, not_true, not_false, List.mem_cons, List.not_mem_nil, or_false, false_or, or_self, String.reduceEq, reduceIte, ne_eq, Int.reduceLT, Int.reduceLE, Nat.reduceAdd, Nat.reduceLeDiff, Int.reducePow, Int.reduceNeg, Int.reduceBEq, Int.reduceEq, Int.reduceToNat, Int.reduceAdd, Int.reduceSub, Int.reduceMul, reduceCtorEq, Bool.not_true, Bool.not_false, Bool.not_eq_true], by simp only [run_eq, tst_eq, evl_eq, itr_eq, e_add, e_sub, e_mul_l, e_mul_r, e_div, e_mod, e_adds, e_addl, e_set, e_rho_nil, e_rho, e_fint, e_fstr, e_fnone, e_fbool, e_flist, e_ftup, e_rv, e_rl, e_rd, e_putd, e_puts, e_putRd, e_putRs, e_tup, e_putn, e_putc, e_thn, e_thr, e_lt, e_le, e_gt, e_ge, e_eqi, e_nei, e_eqs, e_nes, e_is, e_isnot, e_len_l, e_len_t, e_len_s, e_tb, e_ti, e_tl, e_tn, e_inc, fix_d, fl_nil, fl_int, fl_str, fl_none, fl_bool, fl_tup, ofS_beq, String.reduceBEq, Bool.and_true, Bool.true_and, e_idx_s, e_idx_l, e_idx_t, e_sls, e_sll, hi_none, lo_none, le_line, le_lineI, rng_lo, fls_nil, fls_d, newL_d, fixT_d, S_length, Option.bind_eq_bind, Option.bind_some, Option.map_some, Option.bind_none, Option.map_none, if_true, if_false, Bool.false_eq_true, decide_eq_true_eq, List.map_cons, List.map_nil, List.length_cons, List.length_nil, and_self, and_true, true_and, true_or, or_true, not_true, not_false, List.mem_cons, List.not_mem_nil, or_false, false_or, or_self, String.reduceEq, reduceIte, ne_eq, Int.reduceLT, Int.reduceLE, Nat.reduceAdd, Nat.reduceLeDiff, Int.reducePow, Int.reduceNeg, Int.reduceBEq, Int.reduceEq, Int.reduceToNat, Int.reduceAdd, Int.reduceSub, Int.reduceMul, reduceCtorEq, Bool.not_true, Bool.not_false, Bool.not_eq_true], by simp only [run_eq, tst_eq, evl_eq, itr_eq, e_add, e_sub, e_mul_l, e_mul_r, e_div, e_mod, e_adds, e_addl, e_set, e_rho_nil, e_rho, e_fint, e_fstr, e_fnone, e_fbool, e_flist, e_ftup, e_rv, e_rl, e_rd, e_putd, e_puts, e_putRd, e_putRs, e_tup, e_putn, e_putc, e_thn, e_thr, e_lt, e_le, e_gt, e_ge, e_eqi, e_nei, e_eqs, e_nes, e_is, e_isnot, e_len_l, e_len_t, e_len_s, e_tb, e_ti, e_tl, e_tn, e_inc, fix_d, fl_nil, fl_int, fl_str, fl_none, fl_bool, fl_tup, ofS_beq, String.reduceBEq, Bool.and_true, Bool.true_and, e_idx_s, e_idx_l, e_idx_t, e_sls, e_sll, hi_none, lo_none, le_line, le_lineI, rng_lo, fls_nil, fls_d, newL_d, fixT_d, S_length, Option.bind_eq_bind, Option.bind_some, Option.map_some, Option.bind_none, Option.map_none, if_true, if_false, Bool.false_eq_true, decide_eq_true_eq, List.map_cons, List.map_nil, List.length_cons, List.length_nil, and_self, and_true, true_and, true_or, or_true, not_true, not_false, List.mem_cons, List.not_mem_nil, or_false, false_or, or_self, String.reduceEq, reduceIte, ne_eq, Int.reduceLT, Int.reduceLE, Nat.reduceAdd, Nat.reduceLeDiff, Int.reducePow, Int.reduceNeg, Int.reduceBEq, Int.reduceEq, Int.reduceToNat, Int.reduceAdd, Int.reduceSub, Int.reduceMul, reduceCtorEq, Bool.not_true, Bool.not_false, Bool.not_eq_true], by simp only [run_eq, tst_eq, evl_eq, itr_eq, e_add, e_sub, e_mul_l, e_mul_r, e_div, e_mod, e_adds, e_addl, e_set, e_rho_nil, e_rho, e_fint, e_fstr, e_fnone, e_fbool, e_flist, e_ftup, e_rv, e_rl, e_rd, e_putd, e_puts, e_putRd, e_putRs, e_tup, e_putn, e_putc, e_thn, e_thr, e_lt, e_le, e_gt, e_ge, e_eqi, e_nei, e_eqs, e_nes, e_is, e_isnot, e_len_l, e_len_t, e_len_s, e_tb, e_ti, e_tl, e_tn, e_inc, fix_d, fl_nil, fl_int, fl_str, fl_none, fl_bool, fl_tup, ofS_beq, String.reduceBEq, Bool.and_true, Bool.true_and, e_idx_s, e_idx_l, e_idx_t, e_sls, e_sll, hi_none, lo_none, le_line, le_lineI, rng_lo, fls_nil, fls_d, newL_d, fixT_d, S_length, Option.bind_eq_bind, Option.bind_some, Option.map_some, Option.bind_none, Option.map_none, if_true, if_false, Bool.false_eq_true, decide_eq_true_eq, List.map_cons, List.map_nil, List.length_cons, List.length_nil, and_self, and_true, true_and, true_or, or_true, not_true, not_false, List.mem_cons, List.not_mem_nil, or_false, false_or, or_self, String.reduceEq, reduceIte, ne_eq, Int.reduceLT, Int.reduceLE, Nat.reduceAdd, Nat.reduceLeDiff, Int.reducePow, Int.reduceNeg, Int.reduceBEq, Int.reduceEq, Int.reduceToNat, Int.reduceAdd, Int.reduceSub, Int.reduceMul, reduceCtorEq, Bool.not_true, Bool.not_false, Bool.not_eq_true]⟩
  rintro ρ ⟨h1, h2, h3, h4, h5, h6, h7⟩
  refine seq (by simp only [run_eq, tst_eq, evl_eq, itr_eq, e_add, e_sub, e_mul_l, e_mul_r, e_div, e_mod, e_adds, e_addl, e_set, e_rho_nil, e_rho, e_fint, e_fstr, e_fnone, e_fbool, e_flist, e_ftup, e_rv, e_rl, e_rd, e_putd, e_puts, e_putRd, e_putRs, e_tup, e_putn, e_putc, e_thn, e_thr, e_lt, e_le, e_gt, e_ge, e_eqi, e_nei, e_eqs, e_nes, e_is, e_isnot, e_len_l, e_len_t, e_len_s, e_tb, e_ti, e_tl, e_tn, e_inc, fix_d, fl_nil, fl_int, fl_str, fl_none, fl_bool, fl_tup, ofS_beq, String.reduceBEq, Bool.and_true, Bool.true_and, e_idx_s, e_idx_l, e_idx_t, e_sls, e_sll, hi_none, lo_none, le_line, le_lineI, rng_lo, fls_nil, fls_d, newL_d, fixT_d, S_length, Option.bind_eq_bind, Option.bind_some, Option.map_some, Option.bind_none, Option.map_none, if_true, if_false, Bool.false_eq_true, decide_eq_true_eq, List.map_cons, List.map_nil, List.length_cons, List.length_nil, and_self, and_true, true_and, true_or, or_true, not_true, not_false, List.mem_cons, List.not_mem_nil, or_false, false_or, or_self, String.reduceEq, reduceIte, ne_eq, Int.reduceLT, Int.reduceLE, Nat.reduceAdd, Nat.reduceLeDiff, Int.reducePow, Int.reduceNeg, Int.reduceBEq, Int.reduceEq, Int.reduceToNat, Int.reduceAdd, Int.reduceSub, Int.reduceMul, reduceCtorEq, Bool.not_true, Bool.not_false, Bool.not_eq_true, h5, h7, e_mod hz']; rfl) ?_
  refine seq (by simp only [run_eq, tst_eq, evl_eq, itr_eq, e_add, e_sub, e_mul_l, e_mul_r, e_div, e_mod, e_adds, e_addl, e_set, e_rho_nil, e_rho, e_fint, e_fstr, e_fnone, e_fbool, e_flist, e_ftup, e_rv, e_rl, e_rd, e_putd, e_puts, e_putRd, e_putRs, e_tup, e_putn, e_putc, e_thn, e_thr, e_lt, e_le, e_gt, e_ge, e_eqi, e_nei, e_eqs, e_nes, e_is, e_isnot, e_len_l, e_len_t, e_len_s, e_tb, e_ti, e_tl, e_tn, e_inc, fix_d, fl_nil, fl_int, fl_str, fl_none, fl_bool, fl_tup, ofS_beq, String.reduceBEq, Bool.and_true, Bool.true_and, e_idx_s, e_idx_l, e_idx_t, e_sls, e_sll, hi_none, lo_none, le_line, le_lineI, rng_lo, fls_nil, fls_d, newL_d, fixT_d, S_length, Option.bind_eq_bind, Option.bind_some, Option.map_some, Option.bind_none, Option.map_none, if_true, if_false, Bool.false_eq_true, decide_eq_true_eq, List.map_cons, List.map_nil, List.length_cons, List.length_nil, and_self, and_true, true_and, true_or, or_true, not_true, not_false, List.mem_cons, List.not_mem_nil, or_false, false_or, or_self, String.reduceEq, reduceIte, ne_eq, Int.reduceLT, Int.reduceLE, Nat.reduceAdd, Nat.reduceLeDiff, Int.reducePow, Int.reduceNeg, Int.reduceBEq, Int.reduceEq, Int.reduceToNat, Int.reduceAdd, Int.reduceSub, Int.reduceMul, reduceCtorEq, Bool.not_true, Bool.not_false, Bool.not_eq_true, h6]; rfl) ?_
  obtain ⟨k, hk, ek⟩ : ∃ k : Nat, k < 10 ∧ c % 10 = k := ⟨(c % 10).toNat, by omega, by omega⟩
  rw [rho_know [("_law_number", .val ⟨.int (numS c), .d⟩), ("_law_name", .val ⟨strP (pickN ns (moreS c)), .d⟩), ("_law_other", .val ⟨strP (pickN ns (moreS c / 7)), .d⟩), ("_law_plot", .val ⟨strP (pickP ps (moreS c / 61)), .d⟩)] (know_cons h1 (know_cons h2 (know_cons h3 (know_cons h4 know_nil))))]
  have hrow : rowS c ps ns size = rowK (c % 10).toNat (pickN ns (moreS c)) (pickN ns (moreS c / 7)) (pickP ps (moreS c / 61)) (numS c) (moreS c / 1013 % (size + 1)) := rfl
  rw [hrow]
  clear hrow
  rw [ek]
  clear ek
  match k, hk with
  | 0, _ => kernel_rfl
  | 1, _ => kernel_rfl
  | 2, _ => kernel_rfl
  | 3, _ => kernel_rfl
  | 4, _ => kernel_rfl
  | 5, _ => kernel_rfl
  | 6, _ => kernel_rfl
  | 7, _ => kernel_rfl
  | 8, _ => kernel_rfl
  | 9, _ => kernel_rfl
end Mine

/-! text F08_cells -/
set_option autoImplicit false
set_option maxRecDepth 100000
set_option maxHeartbeats 4000000
set_option linter.unusedSimpArgs false
set_option linter.unusedVariables false

namespace Mine
open PySem PySem.Calls
theorem plots_len (l : List Int) : (plotsS l).length = (manyS l).toNat := by simp [plotsS]
theorem ints_take (l : List Int) (a b : Nat) : ((intsP l).take a).drop b = intsP ((l.take a).drop b) := by simp [intsP]
theorem flats_ints (l : List Int) : flats (intsP l) = true := by
  rw [flats_iff]; intro x hx
  obtain ⟨i, _, rfl⟩ := List.mem_map.mp hx
  rfl
theorem newL_ints (l : List Int) (f : Fl) : V.newL (intsP l) f = ⟨.list (intsP l), .d⟩ := by unfold V.newL; rw [if_pos (flats_ints l)]
theorem names_pos (l : List Int) : 0 < (namesS l (plotsS l)).length := by
  have h1 := plots_len l
  have h2 := many_le l
  have h3 := nmany_le l
  unfold namesS; split
  · simp; omega
  · simp; omega
theorem plain_strP (n : List Nat) : plain 1 (strP n) := plain_str _
theorem plain_plot (p : List Nat × Option (List Nat)) : plain 2 (plotP p) := plain_tuple fun x hx => by
  rcases List.mem_cons.mp hx with rfl | hx
  · exact plain_str _
  · rw [List.mem_singleton.mp hx]
    cases p.2
    · exact plain_none
    · exact plain_str _
theorem plain_map {α : Type} {k : Nat} {f : α → PyData} (hf : ∀ a, plain k (f a)) (xs : List α) : plain (k + 1) (.list (xs.map f)) := plain_list fun x hx => by
  obtain ⟨a, _, rfl⟩ := List.mem_map.mp hx; exact hf a
theorem flats_row (r : Row) : flats (.str (Str.ofString r.parts.1) :: r.parts.2) = true := by cases r <;> rfl
theorem fix_row (r : Row) (f : Fl) : V.fix (rowP r) f = ⟨rowP r, .d⟩ := e_ftup (flats_row r)
end Mine

/-! text F08_outward -/
set_option autoImplicit false
set_option maxRecDepth 100000
set_option maxHeartbeats 4000000
set_option linter.unusedSimpArgs false
set_option linter.unusedVariables false

namespace Mine
open PySem PySem.Calls
variable {w : World} {hb : Heap}
noncomputable abbrev Plots := List (List Nat × Option (List Nat))
/-- each name's plot lies in the next one -/
noncomputable def Chain (ps : Plots) (c : List (List Nat)) : Prop := ∀ i n, c[i]? = some n → ps.lookup n = some c[i + 1]?
noncomputable def entP (p : List Nat × Option (List Nat)) : Str × PyData := (S p.1, optP p.2)
theorem at_ent {n : List Nat} {o : Option (List Nat)} : ∀ {ps : Plots}, ps.lookup n = some o → aIdx (dictOf (ps.map entP)) (.str (S n)) = some (optP o)
  | [], h => by simp at h
  | p :: ps, h => by
    rw [List.lookup_cons] at h
    show atKey (S n) ((.str (S p.1), optP p.2) :: (ps.map entP).map fun p => (.str p.1, p.2)) = _
    rw [atKey]
    by_cases e : n = p.1
    · subst e
      simp only [beq_self_eq_true] at h
      rw [if_pos rfl, ← Option.some.inj h]
    · rw [beq_eq_false_iff_ne.mpr e] at h
      rw [if_neg fun q => e (S_inj q).symm]
      exact at_ent h
theorem put_new {ps : Plots} {p : List Nat × Option (List Nat)} (h : p.1 ∉ ps.map (·.1)) : putKey (ps.map entP) (S p.1) (optP p.2) = (ps ++ [p]).map entP := by
  unfold putKey
  rw [if_neg]
  · simp [entP]
  · simp only [List.any_map, List.any_eq_true, not_exists, not_and]
    intro q hq
    exact fun e => h (List.mem_map.mpr ⟨q, hq, S_inj (of_decide_eq_true e)⟩)
theorem nodup_get {α : Type} {l : List α} (h : l.Nodup) {i j : Nat} {a : α} (hi : l[i]? = some a) (hj : l[j]? = some a) : i = j := by
  obtain ⟨h1, e1⟩ := List.getElem?_eq_some_iff.mp hi
  exact (List.getElem?_inj h1 h).mp (hi.trans hj.symm)
theorem opt_some {n : List Nat} : optP (some n) = .str (S n) := rfl
theorem outward_ok (B : Bui hb) (D : DefAt hb "outward" (fnS pw 1) ["plots", "plot"] (fnB pw 1)) :
    ∃ m, DefG pw w hb 2 "outward" m ∧ ∀ (ps : Plots) (c : List (List Nat)) (n : List Nat), (ps.map (·.1)).Nodup → ps.length ≤ 900 → Chain ps c → c[0]? = some n → c.length ≤ 90 →
      m [.list (ps.map plotP), strP n] = some (.list (c.map strP)) := by
  refine ⟨_, DefG.of D (n := 1) (St.cons (S1.ownDict (by decide +kernel))
    (St.cons (S1.for (It.data Ev.v) (Tg.name (by decide +kernel)) (St.cons (S1.setKey (Ev.idx Ev.v Ev.cint) (Ev.idx Ev.v Ev.cint) (by decide +kernel))
      St.nil))
    (St.cons (S1.ownList Evs.nil (by decide +kernel))
    (St.cons (S1.while 100 (Tr.cmp Ev.v Ev.cnone) (St.cons (S1.append Ev.v (by decide +kernel))
      (St.cons (S1.assign (Ev.idx Ev.v Ev.v) (by decide +kernel))
      St.nil)))
    (St.cons (S1.retOwn (by decide +kernel))
    St.nil))))) _ (fun _ _ h => h), ?_⟩
  intro ps c n hnd hlen hch h0 hcl
  refine fn_ret rfl ?_
  refine seq rfl ?_
  refine seqE (fun ρ => ρ "outer" = some (.own (.dct (ps.map entP))) ∧ ρ "plot" = some (.val ⟨strP n, .d⟩)) ?_ ?_
  · refine for_run (ps.map plotP) .s (by simp only [run_eq, tst_eq, evl_eq, itr_eq, e_add, e_sub, e_mul_l, e_mul_r, e_div, e_mod, e_adds, e_addl, e_set, e_rho_nil, e_rho, e_fint, e_fstr, e_fnone, e_fbool, e_flist, e_ftup, e_rv, e_rl, e_rd, e_putd, e_puts, e_putRd, e_putRs, e_tup, e_putn, e_putc, e_thn, e_thr, e_lt, e_le, e_gt, e_ge, e_eqi, e_nei, e_eqs, e_nes, e_is, e_isnot, e_len_l, e_len_t, e_len_s, e_tb, e_ti, e_tl, e_tn, e_inc, fix_d, fl_nil, fl_int, fl_str, fl_none, fl_bool, fl_tup, ofS_beq, String.reduceBEq, Bool.and_true, Bool.true_and, e_idx_s, e_idx_l, e_idx_t, e_sls, e_sll, hi_none, lo_none, le_line, le_lineI, rng_lo, fls_nil, fls_d, newL_d, fixT_d, S_length, Option.bind_eq_bind, Option.bind_some, Option.map_some, Option.bind_none, Option.map_none, if_true, if_false, Bool.false_eq_true, decide_eq_true_eq, List.map_cons, List.map_nil, List.length_cons, List.length_nil, and_self, and_true, true_and, true_or, or_true, not_true, not_false, List.mem_cons, List.not_mem_nil, or_false, false_or, or_self, String.reduceEq, reduceIte, ne_eq, Int.reduceLT, Int.reduceLE, Nat.reduceAdd, Nat.reduceLeDiff, Int.reducePow, Int.reduceNeg, Int.reduceBEq, Int.reduceEq, Int.reduceToNat, Int.reduceAdd, Int.reduceSub, Int.reduceMul, reduceCtorEq, Bool.not_true, Bool.not_false, Bool.not_eq_true, itemsOf]) (by decide) ?_
    refine (forD_inv' (fun i ρ => ρ "outer" = some (.own (.dct ((ps.take i).map entP))) ∧ ρ "plot" = some (.val ⟨strP n, .d⟩)) ⟨by simp only [run_eq, tst_eq, evl_eq, itr_eq, e_add, e_sub, e_mul_l, e_mul_r, e_div, e_mod, e_adds, e_addl, e_set, e_rho_nil, e_rho, e_fint, e_fstr, e_fnone, e_fbool, e_flist, e_ftup, e_rv, e_rl, e_rd, e_putd, e_puts, e_putRd, e_putRs, e_tup, e_putn, e_putc, e_thn, e_thr, e_lt, e_le, e_gt, e_ge, e_eqi, e_nei, e_eqs, e_nes, e_is, e_isnot, e_len_l, e_len_t, e_len_s, e_tb, e_ti, e_tl, e_tn, e_inc, fix_d, fl_nil, fl_int, fl_str, fl_none, fl_bool, fl_tup, ofS_beq, String.reduceBEq, Bool.and_true, Bool.true_and, e_idx_s, e_idx_l, e_idx_t, e_sls, e_sll, hi_none, lo_none, le_line, le_lineI, rng_lo, fls_nil, fls_d, newL_d, fixT_d, S_length, Option.bind_eq_bind, Option.bind_some, Option.map_some, Option.bind_none, Option.map_none, if_true, if_false, Bool.false_eq_true, decide_eq_true_eq, List.map_cons, List.map_nil, List.length_cons, List.length_nil, and_self, and_true, true_and, true_or, or_true, not_true, not_false, List.mem_cons, List.not_mem_nil, or_false, false_or, or_self, String.reduceEq, reduceIte, ne_eq, Int.reduceLT, Int.reduceLE, Nat.reduceAdd, Nat.reduceLeDiff, Int.reducePow, Int.reduceNeg, Int.reduceBEq, Int.reduceEq, Int.reduceToNat, Int.reduceAdd, Int.reduceSub, Int.reduceMul, reduceCtorEq, Bool.not_true, Bool.not_false, Bool.not_eq_true]; rfl, by simp only [run_eq, tst_eq, evl_eq, itr_eq, e_add, e_sub, e_mul_l, e_mul_r, e_div, e_mod, e_adds, e_addl, e_set, e_rho_nil, e_rho, e_fint, e_fstr, e_fnone, e_fbool, e_flist, e_ftup, e_rv, e_rl, e_rd, e_putd, e_puts, e_putRd, e_putRs, e_tup, e_putn, e_putc, e_thn, e_thr, e_lt, e_le, e_gt, e_ge, e_eqi, e_nei, e_eqs, e_nes, e_is, e_isnot, e_len_l, e_len_t, e_len_s, e_tb, e_ti, e_tl, e_tn, e_inc, fix_d, fl_nil, fl_int, fl_str, fl_none, fl_bool, fl_tup, ofS_beq, String.reduceBEq, Bool.and_true, Bool.true_and, e_idx_s, e_idx_l, e_idx_t, e_sls, e_sll, hi_none, lo_none, le_line, le_lineI, rng_lo, fls_nil, fls_d, newL_d, fixT_d, S_length, Option.bind_eq_bind, Option.bind_some, Option.map_some, Option.bind_none, Option.map_none, if_true, if_false, Bool.false_eq_true, decide_eq_true_eq, List.map_cons, List.map_nil, List.length_cons, List.length_nil, and_self, and_true, true_and, true_or, or_true, not_true, not_false, List.mem_cons, List.not_mem_nil, or_false, false_or, or_self, String.reduceEq, reduceIte, ne_eq, Int.reduceLT, Int.reduceLE, Nat.reduceAdd, Nat.reduceLeDiff, Int.reducePow, Int.reduceNeg, Int.reduceBEq, Int.reduceEq, Int.reduceToNat, Int.reduceAdd, Int.reduceSub, Int.reduceMul, reduceCtorEq, Bool.not_true, Bool.not_false, Bool.not_eq_true]⟩ ?_).imp fun ρ' h => ⟨h.1, ?_⟩
    · intro i x ρ hx ⟨h1, h2⟩
      rw [List.getElem?_map] at hx
      obtain ⟨p, hp, rfl⟩ := Option.map_eq_some_iff.mp hx
      have hi := (List.getElem?_eq_some_iff.mp hp).1
      refine ⟨_, by simp only [run_eq, tst_eq, evl_eq, itr_eq, e_add, e_sub, e_mul_l, e_mul_r, e_div, e_mod, e_adds, e_addl, e_set, e_rho_nil, e_rho, e_fint, e_fstr, e_fnone, e_fbool, e_flist, e_ftup, e_rv, e_rl, e_rd, e_putd, e_puts, e_putRd, e_putRs, e_tup, e_putn, e_putc, e_thn, e_thr, e_lt, e_le, e_gt, e_ge, e_eqi, e_nei, e_eqs, e_nes, e_is, e_isnot, e_len_l, e_len_t, e_len_s, e_tb, e_ti, e_tl, e_tn, e_inc, fix_d, fl_nil, fl_int, fl_str, fl_none, fl_bool, fl_tup, ofS_beq, String.reduceBEq, Bool.and_true, Bool.true_and, e_idx_s, e_idx_l, e_idx_t, e_sls, e_sll, hi_none, lo_none, le_line, le_lineI, rng_lo, fls_nil, fls_d, newL_d, fixT_d, S_length, Option.bind_eq_bind, Option.bind_some, Option.map_some, Option.bind_none, Option.map_none, if_true, if_false, Bool.false_eq_true, decide_eq_true_eq, List.map_cons, List.map_nil, List.length_cons, List.length_nil, and_self, and_true, true_and, true_or, or_true, not_true, not_false, List.mem_cons, List.not_mem_nil, or_false, false_or, or_self, String.reduceEq, reduceIte, ne_eq, Int.reduceLT, Int.reduceLE, Nat.reduceAdd, Nat.reduceLeDiff, Int.reducePow, Int.reduceNeg, Int.reduceBEq, Int.reduceEq, Int.reduceToNat, Int.reduceAdd, Int.reduceSub, Int.reduceMul, reduceCtorEq, Bool.not_true, Bool.not_false, Bool.not_eq_true, plotP, fl_opt]; rfl, ?_⟩
      have p0 : seqAt [PyData.str (S p.1), optP p.2] 0 = some (.str (S p.1)) := rfl
      have p1 : seqAt [PyData.str (S p.1), optP p.2] 1 = some (optP p.2) := rfl
      have hl : ((ps.take i).map entP).length + 1 ≤ sizeLine := le_line (by simp; omega)
      have hk := put_new (ps := ps.take i) (p := p) (by
        rw [List.map_take]
        intro hm
        obtain ⟨j, hj⟩ := List.getElem?_of_mem hm
        have hj' : j < i := by
          have := (List.getElem?_eq_some_iff.mp hj).1
          simp at this; omega
        rw [List.getElem?_take, if_pos hj'] at hj
        have hi' : (ps.map (·.1))[i]? = some p.1 := by rw [List.getElem?_map, hp]; rfl
        exact absurd (nodup_get hnd hj hi') (by omega))
      refine seqN (by simp only [run_eq, tst_eq, evl_eq, itr_eq, e_add, e_sub, e_mul_l, e_mul_r, e_div, e_mod, e_adds, e_addl, e_set, e_rho_nil, e_rho, e_fint, e_fstr, e_fnone, e_fbool, e_flist, e_ftup, e_rv, e_rl, e_rd, e_putd, e_puts, e_putRd, e_putRs, e_tup, e_putn, e_putc, e_thn, e_thr, e_lt, e_le, e_gt, e_ge, e_eqi, e_nei, e_eqs, e_nes, e_is, e_isnot, e_len_l, e_len_t, e_len_s, e_tb, e_ti, e_tl, e_tn, e_inc, fix_d, fl_nil, fl_int, fl_str, fl_none, fl_bool, fl_tup, ofS_beq, String.reduceBEq, Bool.and_true, Bool.true_and, e_idx_s, e_idx_l, e_idx_t, e_sls, e_sll, hi_none, lo_none, le_line, le_lineI, rng_lo, fls_nil, fls_d, newL_d, fixT_d, S_length, Option.bind_eq_bind, Option.bind_some, Option.map_some, Option.bind_none, Option.map_none, if_true, if_false, Bool.false_eq_true, decide_eq_true_eq, List.map_cons, List.map_nil, List.length_cons, List.length_nil, and_self, and_true, true_and, true_or, or_true, not_true, not_false, List.mem_cons, List.not_mem_nil, or_false, false_or, or_self, String.reduceEq, reduceIte, ne_eq, Int.reduceLT, Int.reduceLE, Nat.reduceAdd, Nat.reduceLeDiff, Int.reducePow, Int.reduceNeg, Int.reduceBEq, Int.reduceEq, Int.reduceToNat, Int.reduceAdd, Int.reduceSub, Int.reduceMul, reduceCtorEq, Bool.not_true, Bool.not_false, Bool.not_eq_true, h1, p0, p1, hl, hk]; rfl) ?_
      refine doneN ⟨?_, by simp only [run_eq, tst_eq, evl_eq, itr_eq, e_add, e_sub, e_mul_l, e_mul_r, e_div, e_mod, e_adds, e_addl, e_set, e_rho_nil, e_rho, e_fint, e_fstr, e_fnone, e_fbool, e_flist, e_ftup, e_rv, e_rl, e_rd, e_putd, e_puts, e_putRd, e_putRs, e_tup, e_putn, e_putc, e_thn, e_thr, e_lt, e_le, e_gt, e_ge, e_eqi, e_nei, e_eqs, e_nes, e_is, e_isnot, e_len_l, e_len_t, e_len_s, e_tb, e_ti, e_tl, e_tn, e_inc, fix_d, fl_nil, fl_int, fl_str, fl_none, fl_bool, fl_tup, ofS_beq, String.reduceBEq, Bool.and_true, Bool.true_and, e_idx_s, e_idx_l, e_idx_t, e_sls, e_sll, hi_none, lo_none, le_line, le_lineI, rng_lo, fls_nil, fls_d, newL_d, fixT_d, S_length, Option.bind_eq_bind, Option.bind_some, Option.map_some, Option.bind_none, Option.map_none, if_true, if_false, Bool.false_eq_true, decide_eq_true_eq, List.map_cons, List.map_nil, List.length_cons, List.length_nil, and_self, and_true, true_and, true_or, or_true, not_true, not_false, List.mem_cons, List.not_mem_nil, or_false, false_or, or_self, String.reduceEq, reduceIte, ne_eq, Int.reduceLT, Int.reduceLE, Nat.reduceAdd, Nat.reduceLeDiff, Int.reducePow, Int.reduceNeg, Int.reduceBEq, Int.reduceEq, Int.reduceToNat, Int.reduceAdd, Int.reduceSub, Int.reduceMul, reduceCtorEq, Bool.not_true, Bool.not_false, Bool.not_eq_true, h2]⟩
      simp only [run_eq, tst_eq, evl_eq, itr_eq, e_add, e_sub, e_mul_l, e_mul_r, e_div, e_mod, e_adds, e_addl, e_set, e_rho_nil, e_rho, e_fint, e_fstr, e_fnone, e_fbool, e_flist, e_ftup, e_rv, e_rl, e_rd, e_putd, e_puts, e_putRd, e_putRs, e_tup, e_putn, e_putc, e_thn, e_thr, e_lt, e_le, e_gt, e_ge, e_eqi, e_nei, e_eqs, e_nes, e_is, e_isnot, e_len_l, e_len_t, e_len_s, e_tb, e_ti, e_tl, e_tn, e_inc, fix_d, fl_nil, fl_int, fl_str, fl_none, fl_bool, fl_tup, ofS_beq, String.reduceBEq, Bool.and_true, Bool.true_and, e_idx_s, e_idx_l, e_idx_t, e_sls, e_sll, hi_none, lo_none, le_line, le_lineI, rng_lo, fls_nil, fls_d, newL_d, fixT_d, S_length, Option.bind_eq_bind, Option.bind_some, Option.map_some, Option.bind_none, Option.map_none, if_true, if_false, Bool.false_eq_true, decide_eq_true_eq, List.map_cons, List.map_nil, List.length_cons, List.length_nil, and_self, and_true, true_and, true_or, or_true, not_true, not_false, List.mem_cons, List.not_mem_nil, or_false, false_or, or_self, String.reduceEq, reduceIte, ne_eq, Int.reduceLT, Int.reduceLE, Nat.reduceAdd, Nat.reduceLeDiff, Int.reducePow, Int.reduceNeg, Int.reduceBEq, Int.reduceEq, Int.reduceToNat, Int.reduceAdd, Int.reduceSub, Int.reduceMul, reduceCtorEq, Bool.not_true, Bool.not_false, Bool.not_eq_true]
      rw [List.take_add_one, hp]; rfl
    · obtain ⟨_, h1, h2⟩ := h
      rw [List.length_map, List.take_length] at h1
      exact ⟨h1, h2⟩
  rintro ρ ⟨h1, h2⟩
  refine seq (by simp only [run_eq, tst_eq, evl_eq, itr_eq, e_add, e_sub, e_mul_l, e_mul_r, e_div, e_mod, e_adds, e_addl, e_set, e_rho_nil, e_rho, e_fint, e_fstr, e_fnone, e_fbool, e_flist, e_ftup, e_rv, e_rl, e_rd, e_putd, e_puts, e_putRd, e_putRs, e_tup, e_putn, e_putc, e_thn, e_thr, e_lt, e_le, e_gt, e_ge, e_eqi, e_nei, e_eqs, e_nes, e_is, e_isnot, e_len_l, e_len_t, e_len_s, e_tb, e_ti, e_tl, e_tn, e_inc, fix_d, fl_nil, fl_int, fl_str, fl_none, fl_bool, fl_tup, ofS_beq, String.reduceBEq, Bool.and_true, Bool.true_and, e_idx_s, e_idx_l, e_idx_t, e_sls, e_sll, hi_none, lo_none, le_line, le_lineI, rng_lo, fls_nil, fls_d, newL_d, fixT_d, S_length, Option.bind_eq_bind, Option.bind_some, Option.map_some, Option.bind_none, Option.map_none, if_true, if_false, Bool.false_eq_true, decide_eq_true_eq, List.map_cons, List.map_nil, List.length_cons, List.length_nil, and_self, and_true, true_and, true_or, or_true, not_true, not_false, List.mem_cons, List.not_mem_nil, or_false, false_or, or_self, String.reduceEq, reduceIte, ne_eq, Int.reduceLT, Int.reduceLE, Nat.reduceAdd, Nat.reduceLeDiff, Int.reducePow, Int.reduceNeg, Int.reduceBEq, Int.reduceEq, Int.reduceToNat, Int.reduceAdd, Int.reduceSub, Int.reduceMul, reduceCtorEq, Bool.not_true, Bool.not_false, Bool.not_eq_true]; rfl) ?_
  refine seqE (fun ρ => ρ "found" = some (.own (.lst (c.map strP)))) ?_ ?_
  · refine (whileD_inv' (fun i ρ => ρ "found" = some (.own (.lst ((c.take i).map strP))) ∧ ρ "outer" = some (.own (.dct (ps.map entP))) ∧ ρ "plot" = some (.val ⟨optP c[i]?, .d⟩)) c.length ?_ (by omega) ?_ ?_).imp fun ρ' h => ⟨h.1, ?_⟩
    · exact ⟨by simp only [run_eq, tst_eq, evl_eq, itr_eq, e_add, e_sub, e_mul_l, e_mul_r, e_div, e_mod, e_adds, e_addl, e_set, e_rho_nil, e_rho, e_fint, e_fstr, e_fnone, e_fbool, e_flist, e_ftup, e_rv, e_rl, e_rd, e_putd, e_puts, e_putRd, e_putRs, e_tup, e_putn, e_putc, e_thn, e_thr, e_lt, e_le, e_gt, e_ge, e_eqi, e_nei, e_eqs, e_nes, e_is, e_isnot, e_len_l, e_len_t, e_len_s, e_tb, e_ti, e_tl, e_tn, e_inc, fix_d, fl_nil, fl_int, fl_str, fl_none, fl_bool, fl_tup, ofS_beq, String.reduceBEq, Bool.and_true, Bool.true_and, e_idx_s, e_idx_l, e_idx_t, e_sls, e_sll, hi_none, lo_none, le_line, le_lineI, rng_lo, fls_nil, fls_d, newL_d, fixT_d, S_length, Option.bind_eq_bind, Option.bind_some, Option.map_some, Option.bind_none, Option.map_none, if_true, if_false, Bool.false_eq_true, decide_eq_true_eq, List.map_cons, List.map_nil, List.length_cons, List.length_nil, and_self, and_true, true_and, true_or, or_true, not_true, not_false, List.mem_cons, List.not_mem_nil, or_false, false_or, or_self, String.reduceEq, reduceIte, ne_eq, Int.reduceLT, Int.reduceLE, Nat.reduceAdd, Nat.reduceLeDiff, Int.reducePow, Int.reduceNeg, Int.reduceBEq, Int.reduceEq, Int.reduceToNat, Int.reduceAdd, Int.reduceSub, Int.reduceMul, reduceCtorEq, Bool.not_true, Bool.not_false, Bool.not_eq_true]; rfl, by simp only [run_eq, tst_eq, evl_eq, itr_eq, e_add, e_sub, e_mul_l, e_mul_r, e_div, e_mod, e_adds, e_addl, e_set, e_rho_nil, e_rho, e_fint, e_fstr, e_fnone, e_fbool, e_flist, e_ftup, e_rv, e_rl, e_rd, e_putd, e_puts, e_putRd, e_putRs, e_tup, e_putn, e_putc, e_thn, e_thr, e_lt, e_le, e_gt, e_ge, e_eqi, e_nei, e_eqs, e_nes, e_is, e_isnot, e_len_l, e_len_t, e_len_s, e_tb, e_ti, e_tl, e_tn, e_inc, fix_d, fl_nil, fl_int, fl_str, fl_none, fl_bool, fl_tup, ofS_beq, String.reduceBEq, Bool.and_true, Bool.true_and, e_idx_s, e_idx_l, e_idx_t, e_sls, e_sll, hi_none, lo_none, le_line, le_lineI, rng_lo, fls_nil, fls_d, newL_d, fixT_d, S_length, Option.bind_eq_bind, Option.bind_some, Option.map_some, Option.bind_none, Option.map_none, if_true, if_false, Bool.false_eq_true, decide_eq_true_eq, List.map_cons, List.map_nil, List.length_cons, List.length_nil, and_self, and_true, true_and, true_or, or_true, not_true, not_false, List.mem_cons, List.not_mem_nil, or_false, false_or, or_self, String.reduceEq, reduceIte, ne_eq, Int.reduceLT, Int.reduceLE, Nat.reduceAdd, Nat.reduceLeDiff, Int.reducePow, Int.reduceNeg, Int.reduceBEq, Int.reduceEq, Int.reduceToNat, Int.reduceAdd, Int.reduceSub, Int.reduceMul, reduceCtorEq, Bool.not_true, Bool.not_false, Bool.not_eq_true, h1], by simp only [run_eq, tst_eq, evl_eq, itr_eq, e_add, e_sub, e_mul_l, e_mul_r, e_div, e_mod, e_adds, e_addl, e_set, e_rho_nil, e_rho, e_fint, e_fstr, e_fnone, e_fbool, e_flist, e_ftup, e_rv, e_rl, e_rd, e_putd, e_puts, e_putRd, e_putRs, e_tup, e_putn, e_putc, e_thn, e_thr, e_lt, e_le, e_gt, e_ge, e_eqi, e_nei, e_eqs, e_nes, e_is, e_isnot, e_len_l, e_len_t, e_len_s, e_tb, e_ti, e_tl, e_tn, e_inc, fix_d, fl_nil, fl_int, fl_str, fl_none, fl_bool, fl_tup, ofS_beq, String.reduceBEq, Bool.and_true, Bool.true_and, e_idx_s, e_idx_l, e_idx_t, e_sls, e_sll, hi_none, lo_none, le_line, le_lineI, rng_lo, fls_nil, fls_d, newL_d, fixT_d, S_length, Option.bind_eq_bind, Option.bind_some, Option.map_some, Option.bind_none, Option.map_none, if_true, if_false, Bool.false_eq_true, decide_eq_true_eq, List.map_cons, List.map_nil, List.length_cons, List.length_nil, and_self, and_true, true_and, true_or, or_true, not_true, not_false, List.mem_cons, List.not_mem_nil, or_false, false_or, or_self, String.reduceEq, reduceIte, ne_eq, Int.reduceLT, Int.reduceLE, Nat.reduceAdd, Nat.reduceLeDiff, Int.reducePow, Int.reduceNeg, Int.reduceBEq, Int.reduceEq, Int.reduceToNat, Int.reduceAdd, Int.reduceSub, Int.reduceMul, reduceCtorEq, Bool.not_true, Bool.not_false, Bool.not_eq_true, h2, h0, optP]⟩
    · rintro i ρ hi ⟨f1, f2, f3⟩
      have hn : c[i]? = some c[i] := List.getElem?_eq_getElem hi
      rw [hn] at f3
      have hl : ((c.take i).map strP).length + 1 ≤ sizeLine := le_line (by simp; omega)
      have hlk := at_ent (hch i _ hn)
      have hfx : ∀ o : Option (List Nat), V.fix (optP o) .t = ⟨optP o, .d⟩ := fun o => by cases o <;> rfl
      refine ⟨by simp only [run_eq, tst_eq, evl_eq, itr_eq, e_add, e_sub, e_mul_l, e_mul_r, e_div, e_mod, e_adds, e_addl, e_set, e_rho_nil, e_rho, e_fint, e_fstr, e_fnone, e_fbool, e_flist, e_ftup, e_rv, e_rl, e_rd, e_putd, e_puts, e_putRd, e_putRs, e_tup, e_putn, e_putc, e_thn, e_thr, e_lt, e_le, e_gt, e_ge, e_eqi, e_nei, e_eqs, e_nes, e_is, e_isnot, e_len_l, e_len_t, e_len_s, e_tb, e_ti, e_tl, e_tn, e_inc, fix_d, fl_nil, fl_int, fl_str, fl_none, fl_bool, fl_tup, ofS_beq, String.reduceBEq, Bool.and_true, Bool.true_and, e_idx_s, e_idx_l, e_idx_t, e_sls, e_sll, hi_none, lo_none, le_line, le_lineI, rng_lo, fls_nil, fls_d, newL_d, fixT_d, S_length, Option.bind_eq_bind, Option.bind_some, Option.map_some, Option.bind_none, Option.map_none, if_true, if_false, Bool.false_eq_true, decide_eq_true_eq, List.map_cons, List.map_nil, List.length_cons, List.length_nil, and_self, and_true, true_and, true_or, or_true, not_true, not_false, List.mem_cons, List.not_mem_nil, or_false, false_or, or_self, String.reduceEq, reduceIte, ne_eq, Int.reduceLT, Int.reduceLE, Nat.reduceAdd, Nat.reduceLeDiff, Int.reducePow, Int.reduceNeg, Int.reduceBEq, Int.reduceEq, Int.reduceToNat, Int.reduceAdd, Int.reduceSub, Int.reduceMul, reduceCtorEq, Bool.not_true, Bool.not_false, Bool.not_eq_true, f3, opt_some, isNone], ?_⟩
      refine seqN (by simp only [run_eq, tst_eq, evl_eq, itr_eq, e_add, e_sub, e_mul_l, e_mul_r, e_div, e_mod, e_adds, e_addl, e_set, e_rho_nil, e_rho, e_fint, e_fstr, e_fnone, e_fbool, e_flist, e_ftup, e_rv, e_rl, e_rd, e_putd, e_puts, e_putRd, e_putRs, e_tup, e_putn, e_putc, e_thn, e_thr, e_lt, e_le, e_gt, e_ge, e_eqi, e_nei, e_eqs, e_nes, e_is, e_isnot, e_len_l, e_len_t, e_len_s, e_tb, e_ti, e_tl, e_tn, e_inc, fix_d, fl_nil, fl_int, fl_str, fl_none, fl_bool, fl_tup, ofS_beq, String.reduceBEq, Bool.and_true, Bool.true_and, e_idx_s, e_idx_l, e_idx_t, e_sls, e_sll, hi_none, lo_none, le_line, le_lineI, rng_lo, fls_nil, fls_d, newL_d, fixT_d, S_length, Option.bind_eq_bind, Option.bind_some, Option.map_some, Option.bind_none, Option.map_none, if_true, if_false, Bool.false_eq_true, decide_eq_true_eq, List.map_cons, List.map_nil, List.length_cons, List.length_nil, and_self, and_true, true_and, true_or, or_true, not_true, not_false, List.mem_cons, List.not_mem_nil, or_false, false_or, or_self, String.reduceEq, reduceIte, ne_eq, Int.reduceLT, Int.reduceLE, Nat.reduceAdd, Nat.reduceLeDiff, Int.reducePow, Int.reduceNeg, Int.reduceBEq, Int.reduceEq, Int.reduceToNat, Int.reduceAdd, Int.reduceSub, Int.reduceMul, reduceCtorEq, Bool.not_true, Bool.not_false, Bool.not_eq_true, f1, f3, opt_some, hl]; rfl) ?_
      refine seqN (by simp only [run_eq, tst_eq, evl_eq, itr_eq, e_add, e_sub, e_mul_l, e_mul_r, e_div, e_mod, e_adds, e_addl, e_set, e_rho_nil, e_rho, e_fint, e_fstr, e_fnone, e_fbool, e_flist, e_ftup, e_rv, e_rl, e_rd, e_putd, e_puts, e_putRd, e_putRs, e_tup, e_putn, e_putc, e_thn, e_thr, e_lt, e_le, e_gt, e_ge, e_eqi, e_nei, e_eqs, e_nes, e_is, e_isnot, e_len_l, e_len_t, e_len_s, e_tb, e_ti, e_tl, e_tn, e_inc, fix_d, fl_nil, fl_int, fl_str, fl_none, fl_bool, fl_tup, ofS_beq, String.reduceBEq, Bool.and_true, Bool.true_and, e_idx_s, e_idx_l, e_idx_t, e_sls, e_sll, hi_none, lo_none, le_line, le_lineI, rng_lo, fls_nil, fls_d, newL_d, fixT_d, S_length, Option.bind_eq_bind, Option.bind_some, Option.map_some, Option.bind_none, Option.map_none, if_true, if_false, Bool.false_eq_true, decide_eq_true_eq, List.map_cons, List.map_nil, List.length_cons, List.length_nil, and_self, and_true, true_and, true_or, or_true, not_true, not_false, List.mem_cons, List.not_mem_nil, or_false, false_or, or_self, String.reduceEq, reduceIte, ne_eq, Int.reduceLT, Int.reduceLE, Nat.reduceAdd, Nat.reduceLeDiff, Int.reducePow, Int.reduceNeg, Int.reduceBEq, Int.reduceEq, Int.reduceToNat, Int.reduceAdd, Int.reduceSub, Int.reduceMul, reduceCtorEq, Bool.not_true, Bool.not_false, Bool.not_eq_true, f2, f3, opt_some, hlk, hfx]; rfl) ?_
      refine doneN ⟨?_, by simp only [run_eq, tst_eq, evl_eq, itr_eq, e_add, e_sub, e_mul_l, e_mul_r, e_div, e_mod, e_adds, e_addl, e_set, e_rho_nil, e_rho, e_fint, e_fstr, e_fnone, e_fbool, e_flist, e_ftup, e_rv, e_rl, e_rd, e_putd, e_puts, e_putRd, e_putRs, e_tup, e_putn, e_putc, e_thn, e_thr, e_lt, e_le, e_gt, e_ge, e_eqi, e_nei, e_eqs, e_nes, e_is, e_isnot, e_len_l, e_len_t, e_len_s, e_tb, e_ti, e_tl, e_tn, e_inc, fix_d, fl_nil, fl_int, fl_str, fl_none, fl_bool, fl_tup, ofS_beq, String.reduceBEq, Bool.and_true, Bool.true_and, e_idx_s, e_idx_l, e_idx_t, e_sls, e_sll, hi_none, lo_none, le_line, le_lineI, rng_lo, fls_nil, fls_d, newL_d, fixT_d, S_length, Option.bind_eq_bind, Option.bind_some, Option.map_some, Option.bind_none, Option.map_none, if_true, if_false, Bool.false_eq_true, decide_eq_true_eq, List.map_cons, List.map_nil, List.length_cons, List.length_nil, and_self, and_true, true_and, true_or, or_true, not_true, not_false, List.mem_cons, List.not_mem_nil, or_false, false_or, or_self, String.reduceEq, reduceIte, ne_eq, Int.reduceLT, Int.reduceLE, Nat.reduceAdd, Nat.reduceLeDiff, Int.reducePow, Int.reduceNeg, Int.reduceBEq, Int.reduceEq, Int.reduceToNat, Int.reduceAdd, Int.reduceSub, Int.reduceMul, reduceCtorEq, Bool.not_true, Bool.not_false, Bool.not_eq_true, f2], by simp only [run_eq, tst_eq, evl_eq, itr_eq, e_add, e_sub, e_mul_l, e_mul_r, e_div, e_mod, e_adds, e_addl, e_set, e_rho_nil, e_rho, e_fint, e_fstr, e_fnone, e_fbool, e_flist, e_ftup, e_rv, e_rl, e_rd, e_putd, e_puts, e_putRd, e_putRs, e_tup, e_putn, e_putc, e_thn, e_thr, e_lt, e_le, e_gt, e_ge, e_eqi, e_nei, e_eqs, e_nes, e_is, e_isnot, e_len_l, e_len_t, e_len_s, e_tb, e_ti, e_tl, e_tn, e_inc, fix_d, fl_nil, fl_int, fl_str, fl_none, fl_bool, fl_tup, ofS_beq, String.reduceBEq, Bool.and_true, Bool.true_and, e_idx_s, e_idx_l, e_idx_t, e_sls, e_sll, hi_none, lo_none, le_line, le_lineI, rng_lo, fls_nil, fls_d, newL_d, fixT_d, S_length, Option.bind_eq_bind, Option.bind_some, Option.map_some, Option.bind_none, Option.map_none, if_true, if_false, Bool.false_eq_true, decide_eq_true_eq, List.map_cons, List.map_nil, List.length_cons, List.length_nil, and_self, and_true, true_and, true_or, or_true, not_true, not_false, List.mem_cons, List.not_mem_nil, or_false, false_or, or_self, String.reduceEq, reduceIte, ne_eq, Int.reduceLT, Int.reduceLE, Nat.reduceAdd, Nat.reduceLeDiff, Int.reducePow, Int.reduceNeg, Int.reduceBEq, Int.reduceEq, Int.reduceToNat, Int.reduceAdd, Int.reduceSub, Int.reduceMul, reduceCtorEq, Bool.not_true, Bool.not_false, Bool.not_eq_true]⟩
      simp only [run_eq, tst_eq, evl_eq, itr_eq, e_add, e_sub, e_mul_l, e_mul_r, e_div, e_mod, e_adds, e_addl, e_set, e_rho_nil, e_rho, e_fint, e_fstr, e_fnone, e_fbool, e_flist, e_ftup, e_rv, e_rl, e_rd, e_putd, e_puts, e_putRd, e_putRs, e_tup, e_putn, e_putc, e_thn, e_thr, e_lt, e_le, e_gt, e_ge, e_eqi, e_nei, e_eqs, e_nes, e_is, e_isnot, e_len_l, e_len_t, e_len_s, e_tb, e_ti, e_tl, e_tn, e_inc, fix_d, fl_nil, fl_int, fl_str, fl_none, fl_bool, fl_tup, ofS_beq, String.reduceBEq, Bool.and_true, Bool.true_and, e_idx_s, e_idx_l, e_idx_t, e_sls, e_sll, hi_none, lo_none, le_line, le_lineI, rng_lo, fls_nil, fls_d, newL_d, fixT_d, S_length, Option.bind_eq_bind, Option.bind_some, Option.map_some, Option.bind_none, Option.map_none, if_true, if_false, Bool.false_eq_true, decide_eq_true_eq, List.map_cons, List.map_nil, List.length_cons, List.length_nil, and_self, and_true, true_and, true_or, or_true, not_true, not_false, List.mem_cons, List.not_mem_nil, or_false, false_or, or_self, String.reduceEq, reduceIte, ne_eq, Int.reduceLT, Int.reduceLE, Nat.reduceAdd, Nat.reduceLeDiff, Int.reducePow, Int.reduceNeg, Int.reduceBEq, Int.reduceEq, Int.reduceToNat, Int.reduceAdd, Int.reduceSub, Int.reduceMul, reduceCtorEq, Bool.not_true, Bool.not_false, Bool.not_eq_true]
      rw [List.take_add_one, hn, List.map_append]; rfl
    · rintro ρ ⟨f1, f2, f3⟩
      rw [List.getElem?_eq_none (Nat.le_refl _)] at f3
      simp only [run_eq, tst_eq, evl_eq, itr_eq, e_add, e_sub, e_mul_l, e_mul_r, e_div, e_mod, e_adds, e_addl, e_set, e_rho_nil, e_rho, e_fint, e_fstr, e_fnone, e_fbool, e_flist, e_ftup, e_rv, e_rl, e_rd, e_putd, e_puts, e_putRd, e_putRs, e_tup, e_putn, e_putc, e_thn, e_thr, e_lt, e_le, e_gt, e_ge, e_eqi, e_nei, e_eqs, e_nes, e_is, e_isnot, e_len_l, e_len_t, e_len_s, e_tb, e_ti, e_tl, e_tn, e_inc, fix_d, fl_nil, fl_int, fl_str, fl_none, fl_bool, fl_tup, ofS_beq, String.reduceBEq, Bool.and_true, Bool.true_and, e_idx_s, e_idx_l, e_idx_t, e_sls, e_sll, hi_none, lo_none, le_line, le_lineI, rng_lo, fls_nil, fls_d, newL_d, fixT_d, S_length, Option.bind_eq_bind, Option.bind_some, Option.map_some, Option.bind_none, Option.map_none, if_true, if_false, Bool.false_eq_true, decide_eq_true_eq, List.map_cons, List.map_nil, List.length_cons, List.length_nil, and_self, and_true, true_and, true_or, or_true, not_true, not_false, List.mem_cons, List.not_mem_nil, or_false, false_or, or_self, String.reduceEq, reduceIte, ne_eq, Int.reduceLT, Int.reduceLE, Nat.reduceAdd, Nat.reduceLeDiff, Int.reducePow, Int.reduceNeg, Int.reduceBEq, Int.reduceEq, Int.reduceToNat, Int.reduceAdd, Int.reduceSub, Int.reduceMul, reduceCtorEq, Bool.not_true, Bool.not_false, Bool.not_eq_true, f3, optP, isNone]
    · rw [h.2.1, List.take_length]
  · intro ρ hf
    simp only [run_eq, tst_eq, evl_eq, itr_eq, e_add, e_sub, e_mul_l, e_mul_r, e_div, e_mod, e_adds, e_addl, e_set, e_rho_nil, e_rho, e_fint, e_fstr, e_fnone, e_fbool, e_flist, e_ftup, e_rv, e_rl, e_rd, e_putd, e_puts, e_putRd, e_putRs, e_tup, e_putn, e_putc, e_thn, e_thr, e_lt, e_le, e_gt, e_ge, e_eqi, e_nei, e_eqs, e_nes, e_is, e_isnot, e_len_l, e_len_t, e_len_s, e_tb, e_ti, e_tl, e_tn, e_inc, fix_d, fl_nil, fl_int, fl_str, fl_none, fl_bool, fl_tup, ofS_beq, String.reduceBEq, Bool.and_true, Bool.true_and, e_idx_s, e_idx_l, e_idx_t, e_sls, e_sll, hi_none, lo_none, le_line, le_lineI, rng_lo, fls_nil, fls_d, newL_d, fixT_d, S_length, Option.bind_eq_bind, Option.bind_some, Option.map_some, Option.bind_none, Option.map_none, if_true, if_false, Bool.false_eq_true, decide_eq_true_eq, List.map_cons, List.map_nil, List.length_cons, List.length_nil, and_self, and_true, true_and, true_or, or_true, not_true, not_false, List.mem_cons, List.not_mem_nil, or_false, false_or, or_self, String.reduceEq, reduceIte, ne_eq, Int.reduceLT, Int.reduceLE, Nat.reduceAdd, Nat.reduceLeDiff, Int.reducePow, Int.reduceNeg, Int.reduceBEq, Int.reduceEq, Int.reduceToNat, Int.reduceAdd, Int.reduceSub, Int.reduceMul, reduceCtorEq, Bool.not_true, Bool.not_false, Bool.not_eq_true, hf]
end Mine

/-! text F08_facts -/
set_option autoImplicit false
set_option maxRecDepth 100000
set_option maxHeartbeats 4000000
set_option linter.unusedSimpArgs false
set_option linter.unusedVariables false

namespace Mine
open PySem PySem.Calls
/-! names are distinct, and each plot's chain ends -/
theorem tail_len (c k : Int) (n : Nat) : (tailS c k n).length = (sizeS c k n).toNat := by simp [tailS]
theorem called_inj {c k k' : Int} {s s' : List Nat} (hl : s.length = s'.length) (h : calledS c k s = calledS c k' s') : s = s' := by
  unfold calledS at h
  by_cases hc : c % 2 = 0
  · have e : ∀ j, turnS c j = c := fun j => by unfold turnS; rw [hc]; omega
    have e1 : ∀ j n, sizeS c j n = c / 26 % (9 - n) := fun j n => by unfold sizeS; rw [e]
    have e2 : ∀ j n, tailS c j n = tailS c 0 n := fun j n => by unfold tailS; rw [e1, e1, e, e]
    have e3 : ∀ j n, cutS c j n = cutS c 0 n := fun j n => by unfold cutS; rw [e1, e1]
    rw [e2 k, e2 k', e3 k, e3 k', ← hl] at h
    exact List.append_cancel_left (List.append_cancel_right h)
  · have e3 : ∀ j n, cutS c j n = sizeS c j n := fun j n => by unfold cutS; rw [if_neg hc]
    have e4 : ∀ j n, (tailS c j n).take (cutS c j n).toNat = tailS c j n := fun j n => by rw [e3, ← tail_len, List.take_length]
    have e5 : ∀ j n, (tailS c j n).drop (cutS c j n).toNat = [] := fun j n => by rw [e3, ← tail_len, List.drop_length]
    rw [e4, e4, e5, e5, List.append_nil, List.append_nil] at h
    exact (List.append_inj' h hl).2
theorem nodup_map_range {α : Type} (f : Nat → α) (hf : ∀ i j, f i = f j → i = j) (n : Nat) : ((List.range n).map f).Nodup := by
  rw [List.Nodup, List.pairwise_map]
  exact List.Pairwise.imp (fun h e => h (hf _ _ e)) List.nodup_range
theorem name_inj {l : List Int} {i j : Nat} (h : nameS l i = nameS l j) : i = j := by
  have := called_inj (by simp) h
  simp at this; omega
theorem plots_fst (l : List Int) : (plotsS l).map (·.1) = (List.range (manyS l).toNat).map (nameS l) := by
  unfold plotsS; rw [List.map_map]; rfl
theorem plots_nodup (l : List Int) : ((plotsS l).map (·.1)).Nodup := by
  rw [plots_fst]; exact nodup_map_range _ (fun i j h => name_inj h) _
theorem plots_get {l : List Int} {k : Nat} (h : k < (plotsS l).length) : (plotsS l)[k]? = some (plotS l k) := map_range_get _ (by rw [← plots_len]; exact h)
theorem lookup_get {β : Type} : ∀ {ps : List (List Nat × β)} {k : Nat} {p : List Nat × β}, (ps.map (·.1)).Nodup → ps[k]? = some p → ps.lookup p.1 = some p.2
  | [], k, p, _, h => by simp at h
  | q :: ps, 0, p, _, h => by
    simp at h; subst h
    rw [List.lookup_cons]; simp
  | q :: ps, k + 1, p, hn, h => by
    simp only [List.getElem?_cons_succ] at h
    rw [List.map_cons, List.nodup_cons] at hn
    have hne : p.1 ≠ q.1 := fun e => hn.1 (List.mem_map.mpr ⟨p, List.mem_of_getElem? h, e⟩)
    rw [List.lookup_cons, beq_eq_false_iff_ne.mpr hne]
    exact lookup_get hn.2 h
theorem plots_lookup {l : List Int} {k : Nat} (h : k < (plotsS l).length) : (plotsS l).lookup (nameS l k) = some (outerS l k) := lookup_get (plots_nodup l) (plots_get h)
theorem chain_of (l : List Int) : ∀ k, k < (plotsS l).length → ∃ c, Chain (plotsS l) c ∧ c[0]? = some (nameS l k) ∧ c.length ≤ k + 1 := by
  intro k
  induction k using Nat.strongRecOn with
  | _ k ih =>
    intro hk
    have hl := plots_lookup hk
    by_cases hp : pickS l k < k
    · have ho : outerS l k = some (nameS l (pickS l k).toNat) := if_pos hp
      have h0 := (pick_le l k).1
      obtain ⟨c, h1, h2, h3⟩ := ih (pickS l k).toNat (by omega) (by omega)
      refine ⟨nameS l k :: c, ?_, rfl, by simp; omega⟩
      intro i n hi
      cases i with
      | zero =>
        simp at hi; subst hi
        rw [hl, ho]; simp [h2]
      | succ i => simpa using h1 i n (by simpa using hi)
    · have ho : outerS l k = none := if_neg hp
      refine ⟨[nameS l k], ?_, rfl, by simp⟩
      intro i n hi
      cases i with
      | zero =>
        simp at hi; subst hi
        rw [hl, ho]; rfl
      | succ i => simp at hi
end Mine

/-! text F08_fact -/
set_option autoImplicit false
set_option maxRecDepth 100000
set_option maxHeartbeats 4000000
set_option linter.unusedSimpArgs false
set_option linter.unusedVariables false

namespace Mine
open PySem PySem.Calls
/-! facts -/
inductive Fact where
  | plot (p : List Nat) (b : Bool)
  | name (n : List Nat) (o : Option (List Nat))
  deriving DecidableEq
noncomputable def factP : Fact → PyData
  | .plot p b => .tuple [.str (Str.ofString "plot"), strP p, .bool b]
  | .name n o => .tuple [.str (Str.ofString "name"), strP n, optP o]
theorem plain_opt (o : Option (List Nat)) : plain 1 (optP o) := by
  cases o
  · exact plain_none
  · exact plain_str _
theorem plain3 {x y z : PyData} (h1 : plain 1 x) (h2 : plain 1 y) (h3 : plain 1 z) : plain 2 (.tuple [x, y, z]) := plain_tuple fun u hu => by
  simp only [List.mem_cons, List.not_mem_nil, or_false] at hu
  rcases hu with rfl | rfl | rfl
  · exact h1
  · exact h2
  · exact h3
theorem plain_fact (f : Fact) : plain 2 (factP f) := by
  cases f with
  | plot p b => exact plain3 (plain_str _) (plain_str _) (plain_bool _)
  | name n o => exact plain3 (plain_str _) (plain_str _) (plain_opt _)
theorem eqv_tup (xs ys : List PyData) : PyData.eqv (.tuple xs) (.tuple ys) = PyData.eqvAll xs ys := by rw [PyData.eqv]
theorem eqv_cons (x y : PyData) (xs ys : List PyData) : PyData.eqvAll (x :: xs) (y :: ys) = (PyData.eqv x y && PyData.eqvAll xs ys) := by rw [PyData.eqvAll]
theorem eqv_nil : PyData.eqvAll [] [] = true := by rw [PyData.eqvAll]
theorem eqv_str (a b : Str) : PyData.eqv (.str a) (.str b) = (a == b) := by rw [PyData.eqv]
theorem eqv_bool (a b : Bool) : PyData.eqv (.bool a) (.bool b) = (a == b) := by rw [PyData.eqv]
theorem S_beq (a b : List Nat) : (S a == S b) = decide (a = b) := by
  rw [Bool.eq_iff_iff, beq_iff_eq, decide_eq_true_eq]; exact S_eq
theorem optP_eqv (o o' : Option (List Nat)) : PyData.eqv (optP o) (optP o') = decide (o = o') := by
  cases o <;> cases o' <;> simp [optP, PyData.eqv, S_beq]
theorem fact_eqv (f g : Fact) : PyData.eqv (factP f) (factP g) = decide (f = g) := by
  have e1 : (Str.ofString "plot" == Str.ofString "name") = false := by rw [ofS_beq]; decide
  have e2 : (Str.ofString "name" == Str.ofString "plot") = false := by rw [ofS_beq]; decide
  cases f with
  | plot p b => cases g with
    | plot q c =>
      simp only [factP, eqv_tup, eqv_cons, eqv_nil, eqv_str, eqv_bool, S_beq, beq_self_eq_true, Bool.true_and, Bool.and_true]
      by_cases h : p = q <;> cases b <;> cases c <;> simp [h]
    | name q c => simp only [factP, eqv_tup, eqv_cons, eqv_str, e1, Bool.false_and]; exact (decide_eq_false fun h => by cases h).symm
  | name p b => cases g with
    | plot q c => simp only [factP, eqv_tup, eqv_cons, eqv_str, e2, Bool.false_and]; exact (decide_eq_false fun h => by cases h).symm
    | name q c =>
      simp only [factP, eqv_tup, eqv_cons, eqv_nil, eqv_str, optP_eqv, S_beq, beq_self_eq_true, Bool.true_and, Bool.and_true]
      by_cases h : p = q <;> by_cases h' : b = c <;> simp [h, h']
theorem fix_fact (f : Fact) (fl : Fl) : V.fix (factP f) fl = ⟨factP f, .d⟩ := by
  cases f with
  | plot p b => rfl
  | name n o => exact e_ftup (by simp only [fl_str, fl_opt, fl_nil])
theorem nds_map {α : Type} {f : α → PyData} {k : Nat} (hf : ∀ a, plain k (f a)) (xs : List α) : nds (xs.map f) = true := (nds_iff _).mpr fun x hx => by
  obtain ⟨a, _, rfl⟩ := List.mem_map.mp hx; exact (hf a).1
theorem e_eqb {a b : Bool} : aCmp .Eq (.bool a) (.bool b) = some (a == b) := by
  rfl
theorem sq0 (x : PyData) (xs : List PyData) : seqAt (x :: xs) 0 = some x := rfl
theorem sq1 (x y : PyData) (xs : List PyData) : seqAt (x :: y :: xs) 1 = some y := rfl
theorem sq2 (x y z : PyData) (xs : List PyData) : seqAt (x :: y :: z :: xs) 2 = some z := rfl
end Mine

/-! text F08_wrongS -/
set_option autoImplicit false
set_option maxRecDepth 100000
set_option maxHeartbeats 4000000
set_option linter.unusedSimpArgs false
set_option linter.unusedVariables false

namespace Mine
open PySem PySem.Calls
variable {w : World} {hb : Heap}
noncomputable abbrev strT (x : String) : PyData := .str (Str.ofString x)
noncomputable def outerOf (ps : Plots) (p : List Nat) : Option (List Nat) := (ps.lookup p).getD none
noncomputable def lackS (f : Fact) (n : List Nat) : String := if f = .name n none then "nothing" else if f = .name n (some []) then "gone" else ""
noncomputable def shutS (f : Fact) (p : List Nat) : String := if f = .plot p false then "not open" else ""
noncomputable def orS (a b : String) : String := if a = "" then b else a
noncomputable def wrongS (ps : Plots) (r : Row) (f : Fact) : String := match r with
  | .op p => if f = .plot p true then "open already" else if f ∈ (outerOf ps p).toList.map (Fact.plot · false) then "not open" else ""
  | .lay _ p _ => shutS f p
  | .copy _ o p => orS (lackS f o) (shutS f p)
  | .same _ o => if f = .name o none then "nothing" else ""
  | .add n o => orS (lackS f n) (lackS f o)
  | .tell n => lackS f n
  | .give p => shutS f p
  | .fin => (match f with | .plot _ b => if b then "left" else "" | _ => "")
  | _ => ""
theorem e_eq_fact (f g : Fact) : aCmp .Eq (factP f) (factP g) = some (decide (f = g)) := by
  rw [e_eq (plain_mono (plain_fact f) (by decide)) (plain_mono (plain_fact g) (by decide)), fact_eqv]
end Mine

/-! text F08_lawwrong -/
set_option autoImplicit false
set_option maxRecDepth 100000
set_option maxHeartbeats 4000000
set_option linter.unusedSimpArgs false
set_option linter.unusedVariables false

namespace Mine
open PySem PySem.Calls
variable {w : World} {hb : Heap}
noncomputable def homeD : PyData := dictOf [(Str.ofString "lay", .int 2), (Str.ofString "copy", .int 3), (Str.ofString "give", .int 1)]
/-- what a plot lies in, sought by its name, none and all -/
theorem seek_all {last : List Nat} {o : Option (List Nat)} : ∀ {ps : Plots}, (ps.map (·.1)).Nodup → ps.lookup last = some o →
    ps.filterMap (fun p => if S p.1 == S last then some (optP p.2) else none) = [optP o]
  | [], _, h => by simp at h
  | p :: ps, hn, h => by
    rw [List.map_cons, List.nodup_cons] at hn
    rw [List.lookup_cons] at h
    have hz : ∀ {ps : Plots}, last ∉ ps.map (·.1) → ps.filterMap (fun p => if S p.1 == S last then some (optP p.2) else none) = [] := by
      intro ps hm
      rw [List.filterMap_eq_nil_iff]
      intro q hq
      rw [if_neg]
      exact fun e => hm (List.mem_map.mpr ⟨q, hq, S_inj (eq_of_beq e)⟩)
    rw [List.filterMap_cons]
    by_cases e : last = p.1
    · subst e
      simp only [beq_self_eq_true] at h
      rw [hz hn.1]
      have := Option.some.inj h
      subst this
      simp only [beq_self_eq_true, if_true]
    · rw [beq_eq_false_iff_ne.mpr e] at h
      have e' : (S p.1 == S last) = false := beq_eq_false_iff_ne.mpr fun q => e (S_inj q).symm
      simp only [e', Bool.false_eq_true, if_false]
      exact seek_all hn.2 h
theorem fm_nil {α β : Type} : ∀ xs : List α, xs.filterMap (fun _ => (none : Option β)) = []
  | [] => rfl
  | _ :: xs => by rw [List.filterMap_cons]; exact fm_nil xs
theorem e_in1 {q : List Nat} {o : Option (List Nat)} : aCmp .In (strP q) (.list [optP o]) = some (decide (o = some q)) := by
  cases o with
  | none => rfl
  | some x =>
    show some (S x == S q || false) = _
    rw [Bool.or_false, S_beq]
    by_cases h : x = q <;> simp [h]
theorem e_ni1 {q a : List Nat} : aCmp .NotIn (strP q) (.tuple [strP a]) = some (!decide (a = q)) := by
  show some (!(S a == S q || false)) = _
  rw [Bool.or_false, S_beq]
theorem e_ni2 {q a b : List Nat} : aCmp .NotIn (strP q) (.tuple [strP a, strP b]) = some (!(decide (a = q) || decide (b = q))) := by
  show some (!(S a == S q || (S b == S q || false))) = _
  rw [Bool.or_false, S_beq, S_beq]
noncomputable def goneS (k : Bool) : Option (List Nat) → String
  | none => "nothing"
  | some [] => if k then "" else "gone"
  | some _ => ""
theorem lack_plot (p n : List Nat) (b : Bool) : lackS (.plot p b) n = "" := by simp [lackS]
theorem shut_name (p n : List Nat) (o : Option (List Nat)) : shutS (.name n o) p = "" := by simp [shutS]
theorem lack_name (n b : List Nat) (o : Option (List Nat)) : lackS (.name n o) b = if b = n then goneS false o else "" := by
  unfold lackS
  by_cases h : b = n
  · subst h
    rw [if_pos rfl]
    cases o with
    | none => simp [goneS]
    | some x => cases x <;> simp [goneS]
  · rw [if_neg h, if_neg (fun e => h (by cases e; rfl)), if_neg (fun e => h (by cases e; rfl))]
theorem orS_nil (a : String) : orS a "" = a := by unfold orS; split <;> simp_all
theorem w_name_copy (ps : Plots) (a b p n : List Nat) (o : Option (List Nat)) : wrongS ps (.copy a b p) (.name n o) = if b = n then goneS false o else "" := by
  show orS _ _ = _; rw [shut_name, orS_nil, lack_name]
theorem w_name_tell (ps : Plots) (a n : List Nat) (o : Option (List Nat)) : wrongS ps (.tell a) (.name n o) = if a = n then goneS false o else "" := lack_name ..
theorem w_name_same (ps : Plots) (a b n : List Nat) (o : Option (List Nat)) : wrongS ps (.same a b) (.name n o) = if b = n then goneS true o else "" := by
  show (if Fact.name n o = .name b none then "nothing" else "") = _
  by_cases h : b = n
  · subst h
    rw [if_pos rfl]
    cases o with
    | none => simp [goneS]
    | some x => cases x <;> simp [goneS]
  · rw [if_neg h, if_neg (fun e => h (by cases e; rfl))]
theorem w_name_add (ps : Plots) (a b n : List Nat) (o : Option (List Nat)) : wrongS ps (.add a b) (.name n o) = if a = n ∨ b = n then goneS false o else "" := by
  show orS _ _ = _
  rw [lack_name, lack_name]
  by_cases h : a = n <;> by_cases h' : b = n <;> simp [h, h', orS]
noncomputable def asks : Row → Bool
  | .copy .. => true
  | .same .. => true
  | .add .. => true
  | .tell .. => true
  | _ => false
noncomputable def homes : Row → Bool
  | .lay .. => true
  | .copy .. => true
  | .give .. => true
  | .op .. => true
  | _ => false
theorem w_name_no {ps : Plots} {r : Row} {n : List Nat} {o : Option (List Nat)} (h : asks r = false) : wrongS ps r (.name n o) = "" := by
  cases r <;> simp [asks] at h <;> simp [wrongS, shut_name]
theorem w_plot_t {ps : Plots} {r : Row} {q : List Nat} (h : ∀ p, r ≠ .op p) (h' : r ≠ .fin) : wrongS ps r (.plot q true) = "" := by
  cases r <;> simp_all [wrongS, shutS, lackS, orS]
theorem w_plot_f {ps : Plots} {r : Row} {q : List Nat} (h : homes r = false) : wrongS ps r (.plot q false) = "" := by
  cases r <;> simp [homes] at h <;> simp [wrongS, lackS, orS]
theorem lawwrong_ok (B : Bui hb) (D : DefAt hb "_law_wrong_by" (fnS pw 15) ["_law_plots_here", "_law_row_here", "_law_fact_here"] (fnB pw 15)) :
    ∃ m, DefG pw w hb 2 "_law_wrong_by" m ∧ ∀ (ps : Plots) (r : Row) (f : Fact), (ps.map (·.1)).Nodup → (∀ p, r = .op p → ∃ o, ps.lookup p = some o) →
      m [.list (ps.map plotP), rowP r, factP f] = some (strT (wrongS ps r f)) := by
  refine ⟨_, DefG.of D (n := 1) (St.cons (S1.assignTg Ev.v (Tg.tuple (xs := ["_law_kind_here", "_law_thing", "_law_where"]) (by decide +kernel) rfl (by intro _; rfl)))
    (St.cons (S1.assign (Ev.idx Ev.v Ev.cint) (by decide +kernel))
    (St.cons (S1.if (Tr.cmp Ev.v Ev.s) (St.cons (S1.assignComp (locs := [".0", "_law_plot", "_law_outer"]) (by decide +kernel) (It.data Ev.v) (TgL.tuple (xs := ["_law_plot", "_law_outer"]) (by decide +kernel) (by decide +kernel) rfl) (Ifs.one (Tr.all (Trs.consAnd (Tr.cmp Ev.v Ev.s) (Trs.consAnd (Tr.cmp Ev.v (Ev.idx Ev.v Ev.cint)) Trs.nilAnd)))) Ev.v (by decide +kernel))
      (St.cons (S1.if (Tr.all (Trs.consAnd (Tr.val Ev.v) (Trs.consAnd (Tr.cmp Ev.v Ev.s) (Trs.consAnd (Tr.cmp (Ev.idx Ev.v Ev.cint) Ev.v) Trs.nilAnd)))) (St.cons (S1.ret Ev.s)
        St.nil) St.nil)
      (St.cons (S1.if (Tr.all (Trs.consAnd (Tr.val Ev.v) (Trs.consAnd (Tr.cmp Ev.v Ev.s) Trs.nilAnd))) (St.cons (S1.ret Ev.s)
        St.nil) St.nil)
      (St.cons (S1.assign (Ev.dict (Prs.cons Ev.cint (Prs.cons Ev.cint (Prs.cons Ev.cint Prs.nil)))) (by decide +kernel))
      (St.cons (S1.if (Tr.all (Trs.consAnd (Tr.not (Tr.val Ev.v)) (Trs.consAnd (Tr.cmp Ev.v Ev.v) Trs.nilAnd))) (St.cons (S1.ret Ev.s)
        St.nil) St.nil)
      (St.cons (S1.if (Tr.all (Trs.consAnd (Tr.not (Tr.val Ev.v)) (Trs.consAnd (Tr.cmp Ev.v Ev.v) (Trs.consAnd (Tr.cmp (Ev.idx Ev.v (Ev.idx Ev.v Ev.v)) Ev.v) Trs.nilAnd)))) (St.cons (S1.ret Ev.s)
        St.nil) St.nil)
      (St.cons (S1.ret Ev.s)
      St.nil))))))) St.nil)
    (St.cons (S1.assign (Ev.dict (Prs.cons (Ev.sliceT Ev.v (Pt.yes Ev.cint) (Pt.yes Ev.cint)) (Prs.cons (Ev.sliceT Ev.v (Pt.yes Ev.cint) (Pt.yes Ev.cint)) (Prs.cons (Ev.sliceT Ev.v (Pt.yes Ev.cint) (Pt.yes Ev.cint)) (Prs.cons (Ev.sliceT Ev.v (Pt.yes Ev.cint) (Pt.yes Ev.cint)) Prs.nil))))) (by decide +kernel))
    (St.cons (S1.if (Tr.all (Trs.consOr (Tr.cmp Ev.v Ev.v) (Trs.consOr (Tr.cmp Ev.v (Ev.idx Ev.v Ev.v)) Trs.nilOr))) (St.cons (S1.ret Ev.s)
      St.nil) St.nil)
    (St.cons (S1.if (Tr.cmp Ev.v Ev.cnone) (St.cons (S1.ret Ev.s)
      St.nil) St.nil)
    (St.cons (S1.if (Tr.all (Trs.consAnd (Tr.cmp Ev.v Ev.s) (Trs.consAnd (Tr.cmp Ev.v Ev.s) Trs.nilAnd))) (St.cons (S1.ret Ev.s)
      St.nil) St.nil)
    (St.cons (S1.ret Ev.s)
    St.nil)))))))) _ (fun _ _ h => h), ?_⟩
  intro ps r f hnd hlk
  refine fn_ret rfl ?_
  cases f with
  | plot q b =>
    refine seqUn3 (.str (Str.ofString "plot")) (strP q) (.bool b) (by kernel_rfl) ?_
    refine seqPut (.str (Str.ofString r.parts.1)) (by kernel_rfl) ?_
    refine seqRet (ifR_yes (by kernel_rfl) ?_)
    by_cases hr : ∃ p, r = .op p
    · obtain ⟨p, rfl⟩ := hr
      obtain ⟨o, ho⟩ := hlk p rfl
      have hou : outerOf ps p = o := by unfold outerOf; rw [ho]; rfl
      have hw : wrongS ps (.op p) (.plot q b) = if Fact.plot q b = .plot p true then "open already" else if Fact.plot q b ∈ o.toList.map (Fact.plot · false) then "not open" else "" := by
        show (if Fact.plot q b = .plot p true then "open already" else if Fact.plot q b ∈ (outerOf ps p).toList.map (Fact.plot · false) then "not open" else "") = _
        rw [hou]
      rw [hw]
      refine seq (by
        simp only [run_eq, tst_eq, evl_eq, itr_eq, e_add, e_sub, e_mul_l, e_mul_r, e_div, e_mod, e_adds, e_addl, e_set, e_rho_nil, e_rho, e_fint, e_fstr, e_fnone, e_fbool, e_flist, e_ftup, e_rv, e_rl, e_rd, e_putd, e_puts, e_putRd, e_putRs, e_tup, e_putn, e_putc, e_thn, e_thr, e_lt, e_le, e_gt, e_ge, e_eqi, e_nei, e_eqs, e_nes, e_is, e_isnot, e_len_l, e_len_t, e_len_s, e_tb, e_ti, e_tl, e_tn, e_inc, fix_d, fl_nil, fl_int, fl_str, fl_none, fl_bool, fl_tup, ofS_beq, String.reduceBEq, Bool.and_true, Bool.true_and, e_idx_s, e_idx_l, e_idx_t, e_sls, e_sll, hi_none, lo_none, le_line, le_lineI, rng_lo, fls_nil, fls_d, newL_d, fixT_d, S_length, Option.bind_eq_bind, Option.bind_some, Option.map_some, Option.bind_none, Option.map_none, if_true, if_false, Bool.false_eq_true, decide_eq_true_eq, List.map_cons, List.map_nil, List.length_cons, List.length_nil, and_self, and_true, true_and, true_or, or_true, not_true, not_false, List.mem_cons, List.not_mem_nil, or_false, false_or, or_self, String.reduceEq, reduceIte, ne_eq, Int.reduceLT, Int.reduceLE, Nat.reduceAdd, Nat.reduceLeDiff, Int.reducePow, Int.reduceNeg, Int.reduceBEq, Int.reduceEq, Int.reduceToNat, Int.reduceAdd, Int.reduceSub, Int.reduceMul, reduceCtorEq, Bool.not_true, Bool.not_false, Bool.not_eq_true, fix_row, compV, itemsOf]
        rw [comp_enc plotP (fun x => if S x.1 == S p then some (optP x.2) else none) (fun x _ => by
          obtain ⟨x1, x2⟩ := x
          refine Eq.trans (b := (if (S x1 == S p) = true then some true else some false).bind fun c => if c = true then some (some (optP x2)) else some none) (by cases x2 <;> kernel_rfl) ?_
          show _ = some (if (S x1 == S p) = true then some (optP x2) else none)
          cases (S x1 == S p) <;> rfl), seek_all hnd ho]
        simp only [run_eq, tst_eq, evl_eq, itr_eq, e_add, e_sub, e_mul_l, e_mul_r, e_div, e_mod, e_adds, e_addl, e_set, e_rho_nil, e_rho, e_fint, e_fstr, e_fnone, e_fbool, e_flist, e_ftup, e_rv, e_rl, e_rd, e_putd, e_puts, e_putRd, e_putRs, e_tup, e_putn, e_putc, e_thn, e_thr, e_lt, e_le, e_gt, e_ge, e_eqi, e_nei, e_eqs, e_nes, e_is, e_isnot, e_len_l, e_len_t, e_len_s, e_tb, e_ti, e_tl, e_tn, e_inc, fix_d, fl_nil, fl_int, fl_str, fl_none, fl_bool, fl_tup, ofS_beq, String.reduceBEq, Bool.and_true, Bool.true_and, e_idx_s, e_idx_l, e_idx_t, e_sls, e_sll, hi_none, lo_none, le_line, le_lineI, rng_lo, fls_nil, fls_d, newL_d, fixT_d, S_length, Option.bind_eq_bind, Option.bind_some, Option.map_some, Option.bind_none, Option.map_none, if_true, if_false, Bool.false_eq_true, decide_eq_true_eq, List.map_cons, List.map_nil, List.length_cons, List.length_nil, and_self, and_true, true_and, true_or, or_true, not_true, not_false, List.mem_cons, List.not_mem_nil, or_false, false_or, or_self, String.reduceEq, reduceIte, ne_eq, Int.reduceLT, Int.reduceLE, Nat.reduceAdd, Nat.reduceLeDiff, Int.reducePow, Int.reduceNeg, Int.reduceBEq, Int.reduceEq, Int.reduceToNat, Int.reduceAdd, Int.reduceSub, Int.reduceMul, reduceCtorEq, Bool.not_true, Bool.not_false, Bool.not_eq_true]; rfl) ?_
      cases b with
      | true =>
        by_cases h : q = p
        · subst h
          rw [if_pos rfl]
          exact seqRet (ifR_yes (Eq.trans (b := if (S q == S q) = true then some true else some false) (by kernel_rfl) (by rw [beq_self_eq_true]; rfl)) (by kernel_rfl))
        · rw [if_neg (fun e => h (by cases e; rfl)), if_neg (by cases o <;> simp)]
          have h' : (S p == S q) = false := beq_eq_false_iff_ne.mpr fun e => h (S_inj e).symm
          exact seq (ifR_no (Eq.trans (b := if (S p == S q) = true then some true else some false) (by kernel_rfl) (by rw [h']; rfl)) rfl) (by kernel_rfl)
      | false =>
        rw [if_neg (fun e => by cases e)]
        refine seq (ifR_no (by kernel_rfl) rfl) (seq (ifR_no (by kernel_rfl) rfl) (seqPut homeD (by kernel_rfl) ?_))
        by_cases h : o = some q
        · subst h
          rw [if_pos (by simp)]
          exact seqRet (ifR_yes (Eq.trans (b := (aCmp .In (strP q) (.list [optP (some q)])).bind fun c => if c = true then some true else some false) (by kernel_rfl) (by rw [e_in1, decide_eq_true rfl]; rfl)) (by kernel_rfl))
        · rw [if_neg (by cases o with | none => simp | some x => simp; exact fun e => h (by rw [e]))]
          exact seq (ifR_no (Eq.trans (b := (aCmp .In (strP q) (.list [optP o])).bind fun c => if c = true then some true else some false) (by kernel_rfl) (by rw [e_in1, decide_eq_false h]; rfl)) rfl) (by kernel_rfl)
    · have hop : (Str.ofString r.parts.1 == Str.ofString "open") = false := by
        rw [ofS_beq]
        cases r with
        | op p => exact absurd ⟨p, rfl⟩ hr
        | _ => simp only [Row.parts]; decide +kernel
      refine seq (by
        simp only [run_eq, tst_eq, evl_eq, itr_eq, e_add, e_sub, e_mul_l, e_mul_r, e_div, e_mod, e_adds, e_addl, e_set, e_rho_nil, e_rho, e_fint, e_fstr, e_fnone, e_fbool, e_flist, e_ftup, e_rv, e_rl, e_rd, e_putd, e_puts, e_putRd, e_putRs, e_tup, e_putn, e_putc, e_thn, e_thr, e_lt, e_le, e_gt, e_ge, e_eqi, e_nei, e_eqs, e_nes, e_is, e_isnot, e_len_l, e_len_t, e_len_s, e_tb, e_ti, e_tl, e_tn, e_inc, fix_d, fl_nil, fl_int, fl_str, fl_none, fl_bool, fl_tup, ofS_beq, String.reduceBEq, Bool.and_true, Bool.true_and, e_idx_s, e_idx_l, e_idx_t, e_sls, e_sll, hi_none, lo_none, le_line, le_lineI, rng_lo, fls_nil, fls_d, newL_d, fixT_d, S_length, Option.bind_eq_bind, Option.bind_some, Option.map_some, Option.bind_none, Option.map_none, if_true, if_false, Bool.false_eq_true, decide_eq_true_eq, List.map_cons, List.map_nil, List.length_cons, List.length_nil, and_self, and_true, true_and, true_or, or_true, not_true, not_false, List.mem_cons, List.not_mem_nil, or_false, false_or, or_self, String.reduceEq, reduceIte, ne_eq, Int.reduceLT, Int.reduceLE, Nat.reduceAdd, Nat.reduceLeDiff, Int.reducePow, Int.reduceNeg, Int.reduceBEq, Int.reduceEq, Int.reduceToNat, Int.reduceAdd, Int.reduceSub, Int.reduceMul, reduceCtorEq, Bool.not_true, Bool.not_false, Bool.not_eq_true, fix_row, compV, itemsOf]
        rw [comp_enc plotP (fun _ => none) (fun x _ => by simp only [run_eq, tst_eq, evl_eq, itr_eq, e_add, e_sub, e_mul_l, e_mul_r, e_div, e_mod, e_adds, e_addl, e_set, e_rho_nil, e_rho, e_fint, e_fstr, e_fnone, e_fbool, e_flist, e_ftup, e_rv, e_rl, e_rd, e_putd, e_puts, e_putRd, e_putRs, e_tup, e_putn, e_putc, e_thn, e_thr, e_lt, e_le, e_gt, e_ge, e_eqi, e_nei, e_eqs, e_nes, e_is, e_isnot, e_len_l, e_len_t, e_len_s, e_tb, e_ti, e_tl, e_tn, e_inc, fix_d, fl_nil, fl_int, fl_str, fl_none, fl_bool, fl_tup, ofS_beq, String.reduceBEq, Bool.and_true, Bool.true_and, e_idx_s, e_idx_l, e_idx_t, e_sls, e_sll, hi_none, lo_none, le_line, le_lineI, rng_lo, fls_nil, fls_d, newL_d, fixT_d, S_length, Option.bind_eq_bind, Option.bind_some, Option.map_some, Option.bind_none, Option.map_none, if_true, if_false, Bool.false_eq_true, decide_eq_true_eq, List.map_cons, List.map_nil, List.length_cons, List.length_nil, and_self, and_true, true_and, true_or, or_true, not_true, not_false, List.mem_cons, List.not_mem_nil, or_false, false_or, or_self, String.reduceEq, reduceIte, ne_eq, Int.reduceLT, Int.reduceLE, Nat.reduceAdd, Nat.reduceLeDiff, Int.reducePow, Int.reduceNeg, Int.reduceBEq, Int.reduceEq, Int.reduceToNat, Int.reduceAdd, Int.reduceSub, Int.reduceMul, reduceCtorEq, Bool.not_true, Bool.not_false, Bool.not_eq_true, cstep, fix_row, plotP, fl_opt, hop]), fm_nil]
        simp only [run_eq, tst_eq, evl_eq, itr_eq, e_add, e_sub, e_mul_l, e_mul_r, e_div, e_mod, e_adds, e_addl, e_set, e_rho_nil, e_rho, e_fint, e_fstr, e_fnone, e_fbool, e_flist, e_ftup, e_rv, e_rl, e_rd, e_putd, e_puts, e_putRd, e_putRs, e_tup, e_putn, e_putc, e_thn, e_thr, e_lt, e_le, e_gt, e_ge, e_eqi, e_nei, e_eqs, e_nes, e_is, e_isnot, e_len_l, e_len_t, e_len_s, e_tb, e_ti, e_tl, e_tn, e_inc, fix_d, fl_nil, fl_int, fl_str, fl_none, fl_bool, fl_tup, ofS_beq, String.reduceBEq, Bool.and_true, Bool.true_and, e_idx_s, e_idx_l, e_idx_t, e_sls, e_sll, hi_none, lo_none, le_line, le_lineI, rng_lo, fls_nil, fls_d, newL_d, fixT_d, S_length, Option.bind_eq_bind, Option.bind_some, Option.map_some, Option.bind_none, Option.map_none, if_true, if_false, Bool.false_eq_true, decide_eq_true_eq, List.map_cons, List.map_nil, List.length_cons, List.length_nil, and_self, and_true, true_and, true_or, or_true, not_true, not_false, List.mem_cons, List.not_mem_nil, or_false, false_or, or_self, String.reduceEq, reduceIte, ne_eq, Int.reduceLT, Int.reduceLE, Nat.reduceAdd, Nat.reduceLeDiff, Int.reducePow, Int.reduceNeg, Int.reduceBEq, Int.reduceEq, Int.reduceToNat, Int.reduceAdd, Int.reduceSub, Int.reduceMul, reduceCtorEq, Bool.not_true, Bool.not_false, Bool.not_eq_true]; rfl) ?_
      clear hop hlk
      cases b with
      | true =>
        cases r with
        | op p => exact absurd ⟨p, rfl⟩ hr
        | fin => kernel_rfl
        | _ => (rw [w_plot_t (by intro _ h; cases h) (by intro h; cases h)]; kernel_rfl)
      | false =>
        refine seq (ifR_no (by kernel_rfl) rfl) (seq (ifR_no (by kernel_rfl) rfl) (seqPut homeD (by kernel_rfl) (seq (ifR_no (by kernel_rfl) rfl) ?_)))
        cases r with
        | op p => exact absurd ⟨p, rfl⟩ hr
        | lay n p i =>
          by_cases h : q = p
          · subst h
            rw [show wrongS ps (.lay n q i) (.plot q false) = "not open" by simp [wrongS, shutS, lackS, orS]]
            exact seqRet (ifR_yes (Eq.trans (b := if (S q == S q) = true then some true else some false) (by kernel_rfl) (by rw [beq_self_eq_true]; rfl)) (by kernel_rfl))
          · rw [show wrongS ps (.lay n p i) (.plot q false) = "" by simp [wrongS, shutS, lackS, orS, h]]
            have h' : (S p == S q) = false := beq_eq_false_iff_ne.mpr fun e => h (S_inj e).symm
            exact seq (ifR_no (Eq.trans (b := if (S p == S q) = true then some true else some false) (by kernel_rfl) (by rw [h']; rfl)) rfl) (by kernel_rfl)
        | copy n o p =>
          by_cases h : q = p
          · subst h
            rw [show wrongS ps (.copy n o q) (.plot q false) = "not open" by simp [wrongS, shutS, lackS, orS]]
            exact seqRet (ifR_yes (Eq.trans (b := if (S q == S q) = true then some true else some false) (by kernel_rfl) (by rw [beq_self_eq_true]; rfl)) (by kernel_rfl))
          · rw [show wrongS ps (.copy n o p) (.plot q false) = "" by simp [wrongS, shutS, lackS, orS, h]]
            have h' : (S p == S q) = false := beq_eq_false_iff_ne.mpr fun e => h (S_inj e).symm
            exact seq (ifR_no (Eq.trans (b := if (S p == S q) = true then some true else some false) (by kernel_rfl) (by rw [h']; rfl)) rfl) (by kernel_rfl)
        | give p =>
          by_cases h : q = p
          · subst h
            rw [show wrongS ps (.give q) (.plot q false) = "not open" by simp [wrongS, shutS, lackS, orS]]
            exact seqRet (ifR_yes (Eq.trans (b := if (S q == S q) = true then some true else some false) (by kernel_rfl) (by rw [beq_self_eq_true]; rfl)) (by kernel_rfl))
          · rw [show wrongS ps (.give p) (.plot q false) = "" by simp [wrongS, shutS, lackS, orS, h]]
            have h' : (S p == S q) = false := beq_eq_false_iff_ne.mpr fun e => h (S_inj e).symm
            exact seq (ifR_no (Eq.trans (b := if (S p == S q) = true then some true else some false) (by kernel_rfl) (by rw [h']; rfl)) rfl) (by kernel_rfl)
        | _ => (rw [w_plot_f rfl]; kernel_rfl)
  | name n o =>
    have hfl : V.fix (.tuple [.str (Str.ofString "name"), strP n, optP o]) .s = ⟨.tuple [.str (Str.ofString "name"), strP n, optP o], .d⟩ := fix_fact (.name n o) .s
    refine seqUn3 (.str (Str.ofString "name")) (strP n) (optP o) (Eq.trans (b := some (V.fix (.tuple [.str (Str.ofString "name"), strP n, optP o]) .s)) (by kernel_rfl) (congrArg some hfl)) ?_
    refine seqPut (.str (Str.ofString r.parts.1)) (by kernel_rfl) ?_
    refine seq (ifR_no (by kernel_rfl) rfl) ?_
    cases r with
    | copy a b p =>
      rw [show wrongS ps (.copy a b p) (.name n o) = if b = n then goneS false o else "" from w_name_copy ..]
      refine seqPut (dictOf [(Str.ofString "copy", .tuple [strP b]), (Str.ofString "same", .tuple [strP b]), (Str.ofString "add", .tuple [strP a, strP b]), (Str.ofString "tell", .tuple [strP a])]) (by kernel_rfl) ?_
      by_cases h : b = n
      · rw [if_pos h]
        refine seq (ifR_no (Eq.trans (b := (aCmp .NotIn (strP n) (.tuple [strP b])).bind fun c => if c = true then some true else some false) (by kernel_rfl) (by rw [e_ni1]; simp only [Option.bind_some]; rw [decide_eq_true h]; rfl)) rfl) ?_
        cases o with
        | none => kernel_rfl
        | some x => cases x with
          | nil => kernel_rfl
          | cons c x => kernel_rfl
      · rw [if_neg h]
        exact seqRet (ifR_yes (Eq.trans (b := (aCmp .NotIn (strP n) (.tuple [strP b])).bind fun c => if c = true then some true else some false) (by kernel_rfl) (by rw [e_ni1]; simp only [Option.bind_some]; rw [decide_eq_false h]; rfl)) (by kernel_rfl))
    | same a b =>
      rw [show wrongS ps (.same a b) (.name n o) = if b = n then goneS true o else "" from w_name_same ..]
      refine seqPut (dictOf [(Str.ofString "copy", .tuple [strP b]), (Str.ofString "same", .tuple [strP b]), (Str.ofString "add", .tuple [strP a, strP b]), (Str.ofString "tell", .tuple [strP a])]) (by kernel_rfl) ?_
      by_cases h : b = n
      · rw [if_pos h]
        refine seq (ifR_no (Eq.trans (b := (aCmp .NotIn (strP n) (.tuple [strP b])).bind fun c => if c = true then some true else some false) (by kernel_rfl) (by rw [e_ni1]; simp only [Option.bind_some]; rw [decide_eq_true h]; rfl)) rfl) ?_
        cases o with
        | none => kernel_rfl
        | some x => cases x with
          | nil => kernel_rfl
          | cons c x => kernel_rfl
      · rw [if_neg h]
        exact seqRet (ifR_yes (Eq.trans (b := (aCmp .NotIn (strP n) (.tuple [strP b])).bind fun c => if c = true then some true else some false) (by kernel_rfl) (by rw [e_ni1]; simp only [Option.bind_some]; rw [decide_eq_false h]; rfl)) (by kernel_rfl))
    | add a b =>
      rw [show wrongS ps (.add a b) (.name n o) = if a = n ∨ b = n then goneS false o else "" from w_name_add ..]
      refine seqPut (dictOf [(Str.ofString "copy", .tuple [strP b]), (Str.ofString "same", .tuple [strP b]), (Str.ofString "add", .tuple [strP a, strP b]), (Str.ofString "tell", .tuple [strP a])]) (by kernel_rfl) ?_
      by_cases h : a = n ∨ b = n
      · rw [if_pos h]
        refine seq (ifR_no (Eq.trans (b := (aCmp .NotIn (strP n) (.tuple [strP a, strP b])).bind fun c => if c = true then some true else some false) (by kernel_rfl) (by rw [e_ni2]; simp only [Option.bind_some]; rcases h with h | h <;> (rw [decide_eq_true h]; simp))) rfl) ?_
        cases o with
        | none => kernel_rfl
        | some x => cases x with
          | nil => kernel_rfl
          | cons c x => kernel_rfl
      · rw [if_neg h]
        exact seqRet (ifR_yes (Eq.trans (b := (aCmp .NotIn (strP n) (.tuple [strP a, strP b])).bind fun c => if c = true then some true else some false) (by kernel_rfl) (by rw [e_ni2]; simp only [Option.bind_some]; rw [decide_eq_false fun e => h (.inl e), decide_eq_false fun e => h (.inr e)]; rfl)) (by kernel_rfl))
    | tell a =>
      rw [show wrongS ps (.tell a) (.name n o) = if a = n then goneS false o else "" from w_name_tell ..]
      refine seqPut (dictOf [(Str.ofString "copy", .tuple []), (Str.ofString "same", .tuple []), (Str.ofString "add", .tuple [strP a]), (Str.ofString "tell", .tuple [strP a])]) (by kernel_rfl) ?_
      by_cases h : a = n
      · rw [if_pos h]
        refine seq (ifR_no (Eq.trans (b := (aCmp .NotIn (strP n) (.tuple [strP a])).bind fun c => if c = true then some true else some false) (by kernel_rfl) (by rw [e_ni1]; simp only [Option.bind_some]; rw [decide_eq_true h]; rfl)) rfl) ?_
        cases o with
        | none => kernel_rfl
        | some x => cases x with
          | nil => kernel_rfl
          | cons c x => kernel_rfl
      · rw [if_neg h]
        exact seqRet (ifR_yes (Eq.trans (b := (aCmp .NotIn (strP n) (.tuple [strP a])).bind fun c => if c = true then some true else some false) (by kernel_rfl) (by rw [e_ni1]; simp only [Option.bind_some]; rw [decide_eq_false h]; rfl)) (by kernel_rfl))
    | _ => (rw [w_name_no rfl]; kernel_rfl)
end Mine

/-! text F08_lawfact -/
set_option autoImplicit false
set_option maxRecDepth 100000
set_option maxHeartbeats 4000000
set_option linter.unusedSimpArgs false
set_option linter.unusedVariables false

namespace Mine
open PySem PySem.Calls
variable {w : World} {hb : Heap}
noncomputable def fplotS (c : Int) (ps : Plots) : List Nat := pickP ps (c / 12 * 48271 % 10007)
noncomputable def fnameS (c : Int) (ns : List (List Nat)) : List Nat := pickN ns (c / 36 * 16807 % 10009)
noncomputable def whereS (k : Nat) (p : List Nat) : Option (List Nat) := match k with
  | 0 => none
  | 1 => some []
  | _ => some p
noncomputable def factS (c : Int) (ps : Plots) (ns : List (List Nat)) : Fact :=
  if c % 3 = 0 then .plot (fplotS c ps) (c / 3 % 2 == 0) else .name (fnameS c ns) (whereS (c / 3 % 4).toNat (fplotS c ps))
theorem S_nil : Str.ofString "" = S [] := empty_eq
theorem fact_ok (B : Bui hb) (D : DefAt hb "_law_fact" (fnS pw 14) ["_law_cell", "_law_plots_here", "_law_names_here"] (fnB pw 14)) : ∃ m, DefG pw w hb 2 "_law_fact" m ∧ ∀ (c : Int) (ps : Plots) (ns : List (List Nat)), 0 < ps.length → 0 < ns.length →
    m [.int c, .list (ps.map plotP), .list (ns.map strP)] = some (factP (factS c ps ns)) := by
  refine ⟨_, DefG.of D (n := 1) (St.cons (S1.assign (Ev.idx (Ev.idx Ev.v (Ev.bin (Ev.bin (Ev.bin (Ev.bin Ev.v Ev.cint) Ev.cint) Ev.cint) (Ev.len B (Evs.cons Ev.v Evs.nil)))) Ev.cint) (by decide +kernel))
    (St.cons (S1.assign (Ev.idx Ev.v (Ev.bin (Ev.bin (Ev.bin (Ev.bin Ev.v Ev.cint) Ev.cint) Ev.cint) (Ev.len B (Evs.cons Ev.v Evs.nil)))) (by decide +kernel))
    (St.cons (S1.if (Tr.cmp (Ev.bin Ev.v Ev.cint) Ev.cint) (St.cons (S1.ret (Ev.tuple (Evs.cons Ev.s (Evs.cons Ev.v (Evs.cons (Ev.cmp (Ev.bin (Ev.bin Ev.v Ev.cint) Ev.cint) Ev.cint) Evs.nil)))))
      St.nil) St.nil)
    (St.cons (S1.ret (Ev.tuple (Evs.cons Ev.s (Evs.cons Ev.v (Evs.cons (Ev.idx (Ev.list (Evs.cons Ev.cnone (Evs.cons Ev.s (Evs.cons Ev.v (Evs.cons Ev.v Evs.nil))))) (Ev.bin (Ev.bin Ev.v Ev.cint) Ev.cint)) Evs.nil)))))
    St.nil)))) _ (fun _ _ h => h), ?_⟩
  intro c ps ns hp hn
  have hp' : (0 : Int) < (ps.length : Nat) := by omega
  have hn' : (0 : Int) < (ns.length : Nat) := by omega
  have n1 : seqAt (ns.map strP) (c / 36 * 16807 % 10009 % ns.length) = some (strP (fnameS c ns)) := pickN_at hn _
  obtain ⟨o, p1⟩ := pickP_at hp (c / 12 * 48271 % 10007)
  have p2 : seqAt [PyData.str (S (pickP ps (c / 12 * 48271 % 10007))), optP o] 0 = some (strP (fplotS c ps)) := rfl
  refine fn_ret rfl ?_
  refine seq (by simp only [run_eq, tst_eq, evl_eq, itr_eq, e_add, e_sub, e_mul_l, e_mul_r, e_div, e_mod, e_adds, e_addl, e_set, e_rho_nil, e_rho, e_fint, e_fstr, e_fnone, e_fbool, e_flist, e_ftup, e_rv, e_rl, e_rd, e_putd, e_puts, e_putRd, e_putRs, e_tup, e_putn, e_putc, e_thn, e_thr, e_lt, e_le, e_gt, e_ge, e_eqi, e_nei, e_eqs, e_nes, e_is, e_isnot, e_len_l, e_len_t, e_len_s, e_tb, e_ti, e_tl, e_tn, e_inc, fix_d, fl_nil, fl_int, fl_str, fl_none, fl_bool, fl_tup, ofS_beq, String.reduceBEq, Bool.and_true, Bool.true_and, e_idx_s, e_idx_l, e_idx_t, e_sls, e_sll, hi_none, lo_none, le_line, le_lineI, rng_lo, fls_nil, fls_d, newL_d, fixT_d, S_length, Option.bind_eq_bind, Option.bind_some, Option.map_some, Option.bind_none, Option.map_none, if_true, if_false, Bool.false_eq_true, decide_eq_true_eq, List.map_cons, List.map_nil, List.length_cons, List.length_nil, and_self, and_true, true_and, true_or, or_true, not_true, not_false, List.mem_cons, List.not_mem_nil, or_false, false_or, or_self, String.reduceEq, reduceIte, ne_eq, Int.reduceLT, Int.reduceLE, Nat.reduceAdd, Nat.reduceLeDiff, Int.reducePow, Int.reduceNeg, Int.reduceBEq, Int.reduceEq, Int.reduceToNat, Int.reduceAdd, Int.reduceSub, Int.reduceMul, reduceCtorEq, Bool.not_true, Bool.not_false, Bool.not_eq_true, List.length_map, e_mod hp', p1, plotP, fl_opt, p2]; rfl) ?_
  refine seq (by simp only [run_eq, tst_eq, evl_eq, itr_eq, e_add, e_sub, e_mul_l, e_mul_r, e_div, e_mod, e_adds, e_addl, e_set, e_rho_nil, e_rho, e_fint, e_fstr, e_fnone, e_fbool, e_flist, e_ftup, e_rv, e_rl, e_rd, e_putd, e_puts, e_putRd, e_putRs, e_tup, e_putn, e_putc, e_thn, e_thr, e_lt, e_le, e_gt, e_ge, e_eqi, e_nei, e_eqs, e_nes, e_is, e_isnot, e_len_l, e_len_t, e_len_s, e_tb, e_ti, e_tl, e_tn, e_inc, fix_d, fl_nil, fl_int, fl_str, fl_none, fl_bool, fl_tup, ofS_beq, String.reduceBEq, Bool.and_true, Bool.true_and, e_idx_s, e_idx_l, e_idx_t, e_sls, e_sll, hi_none, lo_none, le_line, le_lineI, rng_lo, fls_nil, fls_d, newL_d, fixT_d, S_length, Option.bind_eq_bind, Option.bind_some, Option.map_some, Option.bind_none, Option.map_none, if_true, if_false, Bool.false_eq_true, decide_eq_true_eq, List.map_cons, List.map_nil, List.length_cons, List.length_nil, and_self, and_true, true_and, true_or, or_true, not_true, not_false, List.mem_cons, List.not_mem_nil, or_false, false_or, or_self, String.reduceEq, reduceIte, ne_eq, Int.reduceLT, Int.reduceLE, Nat.reduceAdd, Nat.reduceLeDiff, Int.reducePow, Int.reduceNeg, Int.reduceBEq, Int.reduceEq, Int.reduceToNat, Int.reduceAdd, Int.reduceSub, Int.reduceMul, reduceCtorEq, Bool.not_true, Bool.not_false, Bool.not_eq_true, List.length_map, e_mod hn', n1]; rfl) ?_
  by_cases h : c % 3 = 0
  · rw [show factS c ps ns = .plot (fplotS c ps) (c / 3 % 2 == 0) from if_pos h]
    exact seqRet (ifR_yes (by simp only [run_eq, tst_eq, evl_eq, itr_eq, e_add, e_sub, e_mul_l, e_mul_r, e_div, e_mod, e_adds, e_addl, e_set, e_rho_nil, e_rho, e_fint, e_fstr, e_fnone, e_fbool, e_flist, e_ftup, e_rv, e_rl, e_rd, e_putd, e_puts, e_putRd, e_putRs, e_tup, e_putn, e_putc, e_thn, e_thr, e_lt, e_le, e_gt, e_ge, e_eqi, e_nei, e_eqs, e_nes, e_is, e_isnot, e_len_l, e_len_t, e_len_s, e_tb, e_ti, e_tl, e_tn, e_inc, fix_d, fl_nil, fl_int, fl_str, fl_none, fl_bool, fl_tup, ofS_beq, String.reduceBEq, Bool.and_true, Bool.true_and, e_idx_s, e_idx_l, e_idx_t, e_sls, e_sll, hi_none, lo_none, le_line, le_lineI, rng_lo, fls_nil, fls_d, newL_d, fixT_d, S_length, Option.bind_eq_bind, Option.bind_some, Option.map_some, Option.bind_none, Option.map_none, if_true, if_false, Bool.false_eq_true, decide_eq_true_eq, List.map_cons, List.map_nil, List.length_cons, List.length_nil, and_self, and_true, true_and, true_or, or_true, not_true, not_false, List.mem_cons, List.not_mem_nil, or_false, false_or, or_self, String.reduceEq, reduceIte, ne_eq, Int.reduceLT, Int.reduceLE, Nat.reduceAdd, Nat.reduceLeDiff, Int.reducePow, Int.reduceNeg, Int.reduceBEq, Int.reduceEq, Int.reduceToNat, Int.reduceAdd, Int.reduceSub, Int.reduceMul, reduceCtorEq, Bool.not_true, Bool.not_false, Bool.not_eq_true, h]) (seqRet (by simp only [run_eq, tst_eq, evl_eq, itr_eq, e_add, e_sub, e_mul_l, e_mul_r, e_div, e_mod, e_adds, e_addl, e_set, e_rho_nil, e_rho, e_fint, e_fstr, e_fnone, e_fbool, e_flist, e_ftup, e_rv, e_rl, e_rd, e_putd, e_puts, e_putRd, e_putRs, e_tup, e_putn, e_putc, e_thn, e_thr, e_lt, e_le, e_gt, e_ge, e_eqi, e_nei, e_eqs, e_nes, e_is, e_isnot, e_len_l, e_len_t, e_len_s, e_tb, e_ti, e_tl, e_tn, e_inc, fix_d, fl_nil, fl_int, fl_str, fl_none, fl_bool, fl_tup, ofS_beq, String.reduceBEq, Bool.and_true, Bool.true_and, e_idx_s, e_idx_l, e_idx_t, e_sls, e_sll, hi_none, lo_none, le_line, le_lineI, rng_lo, fls_nil, fls_d, newL_d, fixT_d, S_length, Option.bind_eq_bind, Option.bind_some, Option.map_some, Option.bind_none, Option.map_none, if_true, if_false, Bool.false_eq_true, decide_eq_true_eq, List.map_cons, List.map_nil, List.length_cons, List.length_nil, and_self, and_true, true_and, true_or, or_true, not_true, not_false, List.mem_cons, List.not_mem_nil, or_false, false_or, or_self, String.reduceEq, reduceIte, ne_eq, Int.reduceLT, Int.reduceLE, Nat.reduceAdd, Nat.reduceLeDiff, Int.reducePow, Int.reduceNeg, Int.reduceBEq, Int.reduceEq, Int.reduceToNat, Int.reduceAdd, Int.reduceSub, Int.reduceMul, reduceCtorEq, Bool.not_true, Bool.not_false, Bool.not_eq_true]; rfl)))
  · rw [show factS c ps ns = .name (fnameS c ns) (whereS (c / 3 % 4).toNat (fplotS c ps)) from if_neg h]
    have h' : (c % 3 == 0) = false := beq_eq_false_iff_ne.mpr h
    refine seq (ifR_no (by simp only [run_eq, tst_eq, evl_eq, itr_eq, e_add, e_sub, e_mul_l, e_mul_r, e_div, e_mod, e_adds, e_addl, e_set, e_rho_nil, e_rho, e_fint, e_fstr, e_fnone, e_fbool, e_flist, e_ftup, e_rv, e_rl, e_rd, e_putd, e_puts, e_putRd, e_putRs, e_tup, e_putn, e_putc, e_thn, e_thr, e_lt, e_le, e_gt, e_ge, e_eqi, e_nei, e_eqs, e_nes, e_is, e_isnot, e_len_l, e_len_t, e_len_s, e_tb, e_ti, e_tl, e_tn, e_inc, fix_d, fl_nil, fl_int, fl_str, fl_none, fl_bool, fl_tup, ofS_beq, String.reduceBEq, Bool.and_true, Bool.true_and, e_idx_s, e_idx_l, e_idx_t, e_sls, e_sll, hi_none, lo_none, le_line, le_lineI, rng_lo, fls_nil, fls_d, newL_d, fixT_d, S_length, Option.bind_eq_bind, Option.bind_some, Option.map_some, Option.bind_none, Option.map_none, if_true, if_false, Bool.false_eq_true, decide_eq_true_eq, List.map_cons, List.map_nil, List.length_cons, List.length_nil, and_self, and_true, true_and, true_or, or_true, not_true, not_false, List.mem_cons, List.not_mem_nil, or_false, false_or, or_self, String.reduceEq, reduceIte, ne_eq, Int.reduceLT, Int.reduceLE, Nat.reduceAdd, Nat.reduceLeDiff, Int.reducePow, Int.reduceNeg, Int.reduceBEq, Int.reduceEq, Int.reduceToNat, Int.reduceAdd, Int.reduceSub, Int.reduceMul, reduceCtorEq, Bool.not_true, Bool.not_false, Bool.not_eq_true, h']) rfl) (seqRet ?_)
    have hk : c / 3 % 4 = 0 ∨ c / 3 % 4 = 1 ∨ c / 3 % 4 = 2 ∨ c / 3 % 4 = 3 := by omega
    simp only [run_eq, tst_eq, evl_eq, itr_eq, e_add, e_sub, e_mul_l, e_mul_r, e_div, e_mod, e_adds, e_addl, e_set, e_rho_nil, e_rho, e_fint, e_fstr, e_fnone, e_fbool, e_flist, e_ftup, e_rv, e_rl, e_rd, e_putd, e_puts, e_putRd, e_putRs, e_tup, e_putn, e_putc, e_thn, e_thr, e_lt, e_le, e_gt, e_ge, e_eqi, e_nei, e_eqs, e_nes, e_is, e_isnot, e_len_l, e_len_t, e_len_s, e_tb, e_ti, e_tl, e_tn, e_inc, fix_d, fl_nil, fl_int, fl_str, fl_none, fl_bool, fl_tup, ofS_beq, String.reduceBEq, Bool.and_true, Bool.true_and, e_idx_s, e_idx_l, e_idx_t, e_sls, e_sll, hi_none, lo_none, le_line, le_lineI, rng_lo, fls_nil, fls_d, newL_d, fixT_d, S_length, Option.bind_eq_bind, Option.bind_some, Option.map_some, Option.bind_none, Option.map_none, if_true, if_false, Bool.false_eq_true, decide_eq_true_eq, List.map_cons, List.map_nil, List.length_cons, List.length_nil, and_self, and_true, true_and, true_or, or_true, not_true, not_false, List.mem_cons, List.not_mem_nil, or_false, false_or, or_self, String.reduceEq, reduceIte, ne_eq, Int.reduceLT, Int.reduceLE, Nat.reduceAdd, Nat.reduceLeDiff, Int.reducePow, Int.reduceNeg, Int.reduceBEq, Int.reduceEq, Int.reduceToNat, Int.reduceAdd, Int.reduceSub, Int.reduceMul, reduceCtorEq, Bool.not_true, Bool.not_false, Bool.not_eq_true]
    rcases hk with hk | hk | hk | hk <;> rw [hk] <;> kernel_rfl
end Mine

/-! text F08_ropes -/
set_option autoImplicit false
set_option maxRecDepth 100000
set_option maxHeartbeats 4000000
set_option linter.unusedSimpArgs false
set_option linter.unusedVariables false

namespace Mine
open PySem PySem.Calls
theorem lookup_of {ps : Plots} {p : List Nat} (h : p ∈ ps.map (·.1)) : ∃ o, ps.lookup p = some o := by
  induction ps with
  | nil => simp at h
  | cons q ps ih =>
    rw [List.lookup_cons]
    by_cases e : p = q.1
    · rw [e, beq_self_eq_true]; exact ⟨_, rfl⟩
    · rw [beq_eq_false_iff_ne.mpr e]
      refine ih ?_
      rcases List.mem_cons.mp h with h | h
      · exact absurd h e
      · exact h
theorem names_chain {l : List Int} {p : List Nat} (h : p ∈ (plotsS l).map (·.1)) : ∃ c, Chain (plotsS l) c ∧ c[0]? = some p ∧ c.length ≤ 90 := by
  obtain ⟨q, hq, rfl⟩ := List.mem_map.mp h
  obtain ⟨k, hk⟩ := List.getElem?_of_mem hq
  have hl := (List.getElem?_eq_some_iff.mp hk).1
  rw [plots_get hl] at hk
  cases hk
  obtain ⟨c, h1, h2, h3⟩ := chain_of l k hl
  have := plots_len l
  have := many_le l
  exact ⟨c, h1, h2, by omega⟩
theorem pickP_in {ps : Plots} (h : 0 < ps.length) (i : Int) : pickP ps i ∈ ps.map (·.1) := by
  have h1 := Int.emod_nonneg i (show (ps.length : Int) ≠ 0 by omega)
  have h2 := Int.emod_lt_of_pos i (show 0 < (ps.length : Int) by omega)
  have : (i % ps.length).toNat < ps.length := by omega
  unfold pickP
  rw [List.getElem?_eq_getElem this]
  exact List.mem_map.mpr ⟨_, List.getElem_mem this, rfl⟩
theorem row_op {c : Int} {ps : Plots} {ns : List (List Nat)} {size : Int} {p : List Nat} (hp : 0 < ps.length) (h : rowS c ps ns size = .op p) : p ∈ ps.map (·.1) := by
  unfold rowS at h
  generalize (c % 10).toNat = k at h
  unfold rowK at h
  split at h <;> cases h
  exact pickP_in hp _
end Mine

/-! text F08_lawout -/
set_option autoImplicit false
set_option maxRecDepth 100000
set_option maxHeartbeats 4000000
set_option linter.unusedSimpArgs false
set_option linter.unusedVariables false

namespace Mine
open PySem PySem.Calls
variable {w : World} {hb : Heap}
/-! outward, sought from behind -/
noncomputable def scan : Plots → Option (List Nat) → List (List Nat)
  | [], _ => []
  | x :: xs, cur => if some x.1 = cur then x.1 :: scan xs x.2 else scan xs cur
theorem scan_none : ∀ xs : Plots, scan xs none = []
  | [] => rfl
  | x :: xs => by rw [scan, if_neg (by simp)]; exact scan_none xs
theorem rev_idx (n : Nat) : sliceIdx none none (some (-1)) n = (List.range n).map fun k => n - 1 - k := by
  unfold sliceIdx sliceBounds
  simp only [Option.getD_some, show ¬ ((-1 : Int) > 0) by decide, if_false]
  unfold sliceRange
  simp only [show ¬ ((-1 : Int) > 0) by decide, if_false]
  have e : (if (n : Int) - 1 > -1 then ((n : Int) - 1 - -1 - -1 - 1) / (- -1) else 0).toNat = n := by
    split
    · rw [show (- -1 : Int) = 1 by decide, Int.ediv_one]; omega
    · omega
  rw [e]
  refine List.map_congr_left fun k hk => ?_
  have := List.mem_range.mp hk
  omega
theorem fm_congr {α β : Type} {f g : α → Option β} : ∀ {xs : List α}, (∀ x ∈ xs, f x = g x) → xs.filterMap f = xs.filterMap g
  | [], _ => rfl
  | x :: xs, h => by rw [List.filterMap_cons, List.filterMap_cons, h x (.head _), fm_congr fun y hy => h y (.tail _ hy)]
theorem rev_pick {α : Type} (xs : List α) : ((List.range xs.length).map fun k => xs.length - 1 - k).filterMap (xs[·]?) = xs.reverse := by
  rw [List.filterMap_map]
  have : ∀ k ∈ List.range xs.length, ((fun x => xs[x]?) ∘ fun k => xs.length - 1 - k) k = xs.reverse[k]? := by
    intro k hk
    have := List.mem_range.mp hk
    rw [List.getElem?_reverse this]; rfl
  rw [fm_congr this]
  have h2 := pick_run xs.reverse 0 xs.length (by simp)
  have h3 : (List.range xs.length).map (fun k => 0 + k) = List.range xs.length := by simp
  rw [h3] at h2
  rw [h2, List.drop_zero, List.take_of_length_le (by simp)]
theorem e_rev {l : List PyData} {f : Fl} : aSliceV none none (some (-1)) ⟨.list l, f⟩ = some (V.newL l.reverse f) := by
  unfold aSliceV
  show Option.map _ (if (some (-1) : Option Int) = some 0 then none else some (PyData.list ((sliceIdx none none (some (-1)) l.length).filterMap (l[·]?)))) = _
  rw [if_neg (by decide), rev_idx, rev_pick]; rfl
theorem flats_plots (ps : Plots) : flats (ps.map plotP) = true := by
  induction ps with
  | nil => rfl
  | cons p ps ih => rw [List.map_cons, plotP, fl_tup, flats_plot, ih]; rfl
theorem newL_plots (ps : Plots) (f : Fl) : V.newL (ps.map plotP) f = ⟨.list (ps.map plotP), .d⟩ := by unfold V.newL; rw [if_pos (flats_plots ps)]
theorem e_eqo {n : List Nat} {o : Option (List Nat)} : aCmp .Eq (strP n) (optP o) = some (decide (some n = o)) := by
  cases o with
  | none => rfl
  | some x => rw [optP, e_eqs, S_beq]; simp
theorem lawout_ok (B : Bui hb) (D : DefAt hb "_law_outward" (fnS pw 13) ["_law_plots_here", "_law_plot"] (fnB pw 13)) : ∃ m, DefG pw w hb 2 "_law_outward" m ∧ ∀ (ps : Plots) (n : List Nat), ps.length ≤ 900 → m [.list (ps.map plotP), strP n] = some (.list ((scan ps.reverse (some n)).map strP)) := by
  refine ⟨_, DefG.of D (n := 1) (St.cons (S1.ownList Evs.nil (by decide +kernel))
    (St.cons (S1.for (It.data (Ev.slice Ev.v Pt.no Pt.no (Pt.yes (Ev.neg Ev.cint)))) (Tg.tuple (xs := ["_law_name", "_law_outer"]) (by decide +kernel) rfl (by intro _; rfl)) (St.cons (S1.if (Tr.cmp Ev.v Ev.v) (St.cons (S1.append Ev.v (by decide +kernel))
        (St.cons (S1.assign Ev.v (by decide +kernel))
        St.nil)) St.nil)
      St.nil))
    (St.cons (S1.retOwn (by decide +kernel))
    St.nil))) _ (fun _ _ h => h), ?_⟩
  intro ps n hlen
  refine fn_ret rfl ?_
  refine seq (by simp only [run_eq, tst_eq, evl_eq, itr_eq, e_add, e_sub, e_mul_l, e_mul_r, e_div, e_mod, e_adds, e_addl, e_set, e_rho_nil, e_rho, e_fint, e_fstr, e_fnone, e_fbool, e_flist, e_ftup, e_rv, e_rl, e_rd, e_putd, e_puts, e_putRd, e_putRs, e_tup, e_putn, e_putc, e_thn, e_thr, e_lt, e_le, e_gt, e_ge, e_eqi, e_nei, e_eqs, e_nes, e_is, e_isnot, e_len_l, e_len_t, e_len_s, e_tb, e_ti, e_tl, e_tn, e_inc, fix_d, fl_nil, fl_int, fl_str, fl_none, fl_bool, fl_tup, ofS_beq, String.reduceBEq, Bool.and_true, Bool.true_and, e_idx_s, e_idx_l, e_idx_t, e_sls, e_sll, hi_none, lo_none, le_line, le_lineI, rng_lo, fls_nil, fls_d, newL_d, fixT_d, S_length, Option.bind_eq_bind, Option.bind_some, Option.map_some, Option.bind_none, Option.map_none, if_true, if_false, Bool.false_eq_true, decide_eq_true_eq, List.map_cons, List.map_nil, List.length_cons, List.length_nil, and_self, and_true, true_and, true_or, or_true, not_true, not_false, List.mem_cons, List.not_mem_nil, or_false, false_or, or_self, String.reduceEq, reduceIte, ne_eq, Int.reduceLT, Int.reduceLE, Nat.reduceAdd, Nat.reduceLeDiff, Int.reducePow, Int.reduceNeg, Int.reduceBEq, Int.reduceEq, Int.reduceToNat, Int.reduceAdd, Int.reduceSub, Int.reduceMul, reduceCtorEq, Bool.not_true, Bool.not_false, Bool.not_eq_true]; rfl) ?_
  refine seqE (fun ρ => ρ "_law_found" = some (.own (.lst ((scan ps.reverse (some n)).map strP)))) ?_ ?_
  · refine for_run (ps.reverse.map plotP) .d (by simp only [run_eq, tst_eq, evl_eq, itr_eq, e_add, e_sub, e_mul_l, e_mul_r, e_div, e_mod, e_adds, e_addl, e_set, e_rho_nil, e_rho, e_fint, e_fstr, e_fnone, e_fbool, e_flist, e_ftup, e_rv, e_rl, e_rd, e_putd, e_puts, e_putRd, e_putRs, e_tup, e_putn, e_putc, e_thn, e_thr, e_lt, e_le, e_gt, e_ge, e_eqi, e_nei, e_eqs, e_nes, e_is, e_isnot, e_len_l, e_len_t, e_len_s, e_tb, e_ti, e_tl, e_tn, e_inc, fix_d, fl_nil, fl_int, fl_str, fl_none, fl_bool, fl_tup, ofS_beq, String.reduceBEq, Bool.and_true, Bool.true_and, e_idx_s, e_idx_l, e_idx_t, e_sls, e_sll, hi_none, lo_none, le_line, le_lineI, rng_lo, fls_nil, fls_d, newL_d, fixT_d, S_length, Option.bind_eq_bind, Option.bind_some, Option.map_some, Option.bind_none, Option.map_none, if_true, if_false, Bool.false_eq_true, decide_eq_true_eq, List.map_cons, List.map_nil, List.length_cons, List.length_nil, and_self, and_true, true_and, true_or, or_true, not_true, not_false, List.mem_cons, List.not_mem_nil, or_false, false_or, or_self, String.reduceEq, reduceIte, ne_eq, Int.reduceLT, Int.reduceLE, Nat.reduceAdd, Nat.reduceLeDiff, Int.reducePow, Int.reduceNeg, Int.reduceBEq, Int.reduceEq, Int.reduceToNat, Int.reduceAdd, Int.reduceSub, Int.reduceMul, reduceCtorEq, Bool.not_true, Bool.not_false, Bool.not_eq_true, e_rev, itemsOf, ← List.map_reverse, newL_plots]) (by decide) ?_
    refine (forD_inv' (fun i ρ => ∃ (fs : List (List Nat)) (cur : Option (List Nat)), ρ "_law_found" = some (.own (.lst (fs.map strP))) ∧ ρ "_law_plot" = some (.val ⟨optP cur, .d⟩) ∧ fs.length ≤ i ∧ fs ++ scan (ps.reverse.drop i) cur = scan ps.reverse (some n)) ?_ ?_).imp fun ρ' h => ⟨h.1, ?_⟩
    · exact ⟨[], some n, by simp only [run_eq, tst_eq, evl_eq, itr_eq, e_add, e_sub, e_mul_l, e_mul_r, e_div, e_mod, e_adds, e_addl, e_set, e_rho_nil, e_rho, e_fint, e_fstr, e_fnone, e_fbool, e_flist, e_ftup, e_rv, e_rl, e_rd, e_putd, e_puts, e_putRd, e_putRs, e_tup, e_putn, e_putc, e_thn, e_thr, e_lt, e_le, e_gt, e_ge, e_eqi, e_nei, e_eqs, e_nes, e_is, e_isnot, e_len_l, e_len_t, e_len_s, e_tb, e_ti, e_tl, e_tn, e_inc, fix_d, fl_nil, fl_int, fl_str, fl_none, fl_bool, fl_tup, ofS_beq, String.reduceBEq, Bool.and_true, Bool.true_and, e_idx_s, e_idx_l, e_idx_t, e_sls, e_sll, hi_none, lo_none, le_line, le_lineI, rng_lo, fls_nil, fls_d, newL_d, fixT_d, S_length, Option.bind_eq_bind, Option.bind_some, Option.map_some, Option.bind_none, Option.map_none, if_true, if_false, Bool.false_eq_true, decide_eq_true_eq, List.map_cons, List.map_nil, List.length_cons, List.length_nil, and_self, and_true, true_and, true_or, or_true, not_true, not_false, List.mem_cons, List.not_mem_nil, or_false, false_or, or_self, String.reduceEq, reduceIte, ne_eq, Int.reduceLT, Int.reduceLE, Nat.reduceAdd, Nat.reduceLeDiff, Int.reducePow, Int.reduceNeg, Int.reduceBEq, Int.reduceEq, Int.reduceToNat, Int.reduceAdd, Int.reduceSub, Int.reduceMul, reduceCtorEq, Bool.not_true, Bool.not_false, Bool.not_eq_true], by simp only [run_eq, tst_eq, evl_eq, itr_eq, e_add, e_sub, e_mul_l, e_mul_r, e_div, e_mod, e_adds, e_addl, e_set, e_rho_nil, e_rho, e_fint, e_fstr, e_fnone, e_fbool, e_flist, e_ftup, e_rv, e_rl, e_rd, e_putd, e_puts, e_putRd, e_putRs, e_tup, e_putn, e_putc, e_thn, e_thr, e_lt, e_le, e_gt, e_ge, e_eqi, e_nei, e_eqs, e_nes, e_is, e_isnot, e_len_l, e_len_t, e_len_s, e_tb, e_ti, e_tl, e_tn, e_inc, fix_d, fl_nil, fl_int, fl_str, fl_none, fl_bool, fl_tup, ofS_beq, String.reduceBEq, Bool.and_true, Bool.true_and, e_idx_s, e_idx_l, e_idx_t, e_sls, e_sll, hi_none, lo_none, le_line, le_lineI, rng_lo, fls_nil, fls_d, newL_d, fixT_d, S_length, Option.bind_eq_bind, Option.bind_some, Option.map_some, Option.bind_none, Option.map_none, if_true, if_false, Bool.false_eq_true, decide_eq_true_eq, List.map_cons, List.map_nil, List.length_cons, List.length_nil, and_self, and_true, true_and, true_or, or_true, not_true, not_false, List.mem_cons, List.not_mem_nil, or_false, false_or, or_self, String.reduceEq, reduceIte, ne_eq, Int.reduceLT, Int.reduceLE, Nat.reduceAdd, Nat.reduceLeDiff, Int.reducePow, Int.reduceNeg, Int.reduceBEq, Int.reduceEq, Int.reduceToNat, Int.reduceAdd, Int.reduceSub, Int.reduceMul, reduceCtorEq, Bool.not_true, Bool.not_false, Bool.not_eq_true]; rfl, Nat.le_refl _, by simp⟩
    · rintro i x ρ hx ⟨fs, cur, h1, h2, h3, h4⟩
      rw [List.getElem?_map] at hx
      obtain ⟨p, hp, rfl⟩ := Option.map_eq_some_iff.mp hx
      have hi := (List.getElem?_eq_some_iff.mp hp).1
      have hd : ps.reverse.drop i = p :: ps.reverse.drop (i + 1) := by
        rw [List.drop_eq_getElem_cons hi]; congr 1
        exact (List.getElem?_eq_some_iff.mp hp).2
      rw [hd, scan] at h4
      refine ⟨_, by simp only [run_eq, tst_eq, evl_eq, itr_eq, e_add, e_sub, e_mul_l, e_mul_r, e_div, e_mod, e_adds, e_addl, e_set, e_rho_nil, e_rho, e_fint, e_fstr, e_fnone, e_fbool, e_flist, e_ftup, e_rv, e_rl, e_rd, e_putd, e_puts, e_putRd, e_putRs, e_tup, e_putn, e_putc, e_thn, e_thr, e_lt, e_le, e_gt, e_ge, e_eqi, e_nei, e_eqs, e_nes, e_is, e_isnot, e_len_l, e_len_t, e_len_s, e_tb, e_ti, e_tl, e_tn, e_inc, fix_d, fl_nil, fl_int, fl_str, fl_none, fl_bool, fl_tup, ofS_beq, String.reduceBEq, Bool.and_true, Bool.true_and, e_idx_s, e_idx_l, e_idx_t, e_sls, e_sll, hi_none, lo_none, le_line, le_lineI, rng_lo, fls_nil, fls_d, newL_d, fixT_d, S_length, Option.bind_eq_bind, Option.bind_some, Option.map_some, Option.bind_none, Option.map_none, if_true, if_false, Bool.false_eq_true, decide_eq_true_eq, List.map_cons, List.map_nil, List.length_cons, List.length_nil, and_self, and_true, true_and, true_or, or_true, not_true, not_false, List.mem_cons, List.not_mem_nil, or_false, false_or, or_self, String.reduceEq, reduceIte, ne_eq, Int.reduceLT, Int.reduceLE, Nat.reduceAdd, Nat.reduceLeDiff, Int.reducePow, Int.reduceNeg, Int.reduceBEq, Int.reduceEq, Int.reduceToNat, Int.reduceAdd, Int.reduceSub, Int.reduceMul, reduceCtorEq, Bool.not_true, Bool.not_false, Bool.not_eq_true, plotP, fl_opt]; rfl, ?_⟩
      have hl : (fs.map strP).length + 1 ≤ sizeLine := le_line (by simp at hi ⊢; omega)
      by_cases hc : some p.1 = cur
      · rw [if_pos hc] at h4
        refine seqN (ifR_yes (by simp only [run_eq, tst_eq, evl_eq, itr_eq, e_add, e_sub, e_mul_l, e_mul_r, e_div, e_mod, e_adds, e_addl, e_set, e_rho_nil, e_rho, e_fint, e_fstr, e_fnone, e_fbool, e_flist, e_ftup, e_rv, e_rl, e_rd, e_putd, e_puts, e_putRd, e_putRs, e_tup, e_putn, e_putc, e_thn, e_thr, e_lt, e_le, e_gt, e_ge, e_eqi, e_nei, e_eqs, e_nes, e_is, e_isnot, e_len_l, e_len_t, e_len_s, e_tb, e_ti, e_tl, e_tn, e_inc, fix_d, fl_nil, fl_int, fl_str, fl_none, fl_bool, fl_tup, ofS_beq, String.reduceBEq, Bool.and_true, Bool.true_and, e_idx_s, e_idx_l, e_idx_t, e_sls, e_sll, hi_none, lo_none, le_line, le_lineI, rng_lo, fls_nil, fls_d, newL_d, fixT_d, S_length, Option.bind_eq_bind, Option.bind_some, Option.map_some, Option.bind_none, Option.map_none, if_true, if_false, Bool.false_eq_true, decide_eq_true_eq, List.map_cons, List.map_nil, List.length_cons, List.length_nil, and_self, and_true, true_and, true_or, or_true, not_true, not_false, List.mem_cons, List.not_mem_nil, or_false, false_or, or_self, String.reduceEq, reduceIte, ne_eq, Int.reduceLT, Int.reduceLE, Nat.reduceAdd, Nat.reduceLeDiff, Int.reducePow, Int.reduceNeg, Int.reduceBEq, Int.reduceEq, Int.reduceToNat, Int.reduceAdd, Int.reduceSub, Int.reduceMul, reduceCtorEq, Bool.not_true, Bool.not_false, Bool.not_eq_true, h2, e_eqo, decide_eq_true hc]) (seq (by simp only [run_eq, tst_eq, evl_eq, itr_eq, e_add, e_sub, e_mul_l, e_mul_r, e_div, e_mod, e_adds, e_addl, e_set, e_rho_nil, e_rho, e_fint, e_fstr, e_fnone, e_fbool, e_flist, e_ftup, e_rv, e_rl, e_rd, e_putd, e_puts, e_putRd, e_putRs, e_tup, e_putn, e_putc, e_thn, e_thr, e_lt, e_le, e_gt, e_ge, e_eqi, e_nei, e_eqs, e_nes, e_is, e_isnot, e_len_l, e_len_t, e_len_s, e_tb, e_ti, e_tl, e_tn, e_inc, fix_d, fl_nil, fl_int, fl_str, fl_none, fl_bool, fl_tup, ofS_beq, String.reduceBEq, Bool.and_true, Bool.true_and, e_idx_s, e_idx_l, e_idx_t, e_sls, e_sll, hi_none, lo_none, le_line, le_lineI, rng_lo, fls_nil, fls_d, newL_d, fixT_d, S_length, Option.bind_eq_bind, Option.bind_some, Option.map_some, Option.bind_none, Option.map_none, if_true, if_false, Bool.false_eq_true, decide_eq_true_eq, List.map_cons, List.map_nil, List.length_cons, List.length_nil, and_self, and_true, true_and, true_or, or_true, not_true, not_false, List.mem_cons, List.not_mem_nil, or_false, false_or, or_self, String.reduceEq, reduceIte, ne_eq, Int.reduceLT, Int.reduceLE, Nat.reduceAdd, Nat.reduceLeDiff, Int.reducePow, Int.reduceNeg, Int.reduceBEq, Int.reduceEq, Int.reduceToNat, Int.reduceAdd, Int.reduceSub, Int.reduceMul, reduceCtorEq, Bool.not_true, Bool.not_false, Bool.not_eq_true, h1, hl]; rfl) (seq (by simp only [run_eq, tst_eq, evl_eq, itr_eq, e_add, e_sub, e_mul_l, e_mul_r, e_div, e_mod, e_adds, e_addl, e_set, e_rho_nil, e_rho, e_fint, e_fstr, e_fnone, e_fbool, e_flist, e_ftup, e_rv, e_rl, e_rd, e_putd, e_puts, e_putRd, e_putRs, e_tup, e_putn, e_putc, e_thn, e_thr, e_lt, e_le, e_gt, e_ge, e_eqi, e_nei, e_eqs, e_nes, e_is, e_isnot, e_len_l, e_len_t, e_len_s, e_tb, e_ti, e_tl, e_tn, e_inc, fix_d, fl_nil, fl_int, fl_str, fl_none, fl_bool, fl_tup, ofS_beq, String.reduceBEq, Bool.and_true, Bool.true_and, e_idx_s, e_idx_l, e_idx_t, e_sls, e_sll, hi_none, lo_none, le_line, le_lineI, rng_lo, fls_nil, fls_d, newL_d, fixT_d, S_length, Option.bind_eq_bind, Option.bind_some, Option.map_some, Option.bind_none, Option.map_none, if_true, if_false, Bool.false_eq_true, decide_eq_true_eq, List.map_cons, List.map_nil, List.length_cons, List.length_nil, and_self, and_true, true_and, true_or, or_true, not_true, not_false, List.mem_cons, List.not_mem_nil, or_false, false_or, or_self, String.reduceEq, reduceIte, ne_eq, Int.reduceLT, Int.reduceLE, Nat.reduceAdd, Nat.reduceLeDiff, Int.reducePow, Int.reduceNeg, Int.reduceBEq, Int.reduceEq, Int.reduceToNat, Int.reduceAdd, Int.reduceSub, Int.reduceMul, reduceCtorEq, Bool.not_true, Bool.not_false, Bool.not_eq_true]; rfl) rfl))) (doneN ⟨fs ++ [p.1], p.2, ?_, by simp only [run_eq, tst_eq, evl_eq, itr_eq, e_add, e_sub, e_mul_l, e_mul_r, e_div, e_mod, e_adds, e_addl, e_set, e_rho_nil, e_rho, e_fint, e_fstr, e_fnone, e_fbool, e_flist, e_ftup, e_rv, e_rl, e_rd, e_putd, e_puts, e_putRd, e_putRs, e_tup, e_putn, e_putc, e_thn, e_thr, e_lt, e_le, e_gt, e_ge, e_eqi, e_nei, e_eqs, e_nes, e_is, e_isnot, e_len_l, e_len_t, e_len_s, e_tb, e_ti, e_tl, e_tn, e_inc, fix_d, fl_nil, fl_int, fl_str, fl_none, fl_bool, fl_tup, ofS_beq, String.reduceBEq, Bool.and_true, Bool.true_and, e_idx_s, e_idx_l, e_idx_t, e_sls, e_sll, hi_none, lo_none, le_line, le_lineI, rng_lo, fls_nil, fls_d, newL_d, fixT_d, S_length, Option.bind_eq_bind, Option.bind_some, Option.map_some, Option.bind_none, Option.map_none, if_true, if_false, Bool.false_eq_true, decide_eq_true_eq, List.map_cons, List.map_nil, List.length_cons, List.length_nil, and_self, and_true, true_and, true_or, or_true, not_true, not_false, List.mem_cons, List.not_mem_nil, or_false, false_or, or_self, String.reduceEq, reduceIte, ne_eq, Int.reduceLT, Int.reduceLE, Nat.reduceAdd, Nat.reduceLeDiff, Int.reducePow, Int.reduceNeg, Int.reduceBEq, Int.reduceEq, Int.reduceToNat, Int.reduceAdd, Int.reduceSub, Int.reduceMul, reduceCtorEq, Bool.not_true, Bool.not_false, Bool.not_eq_true], by simp; omega, by rw [← h4]; simp⟩)
        simp only [run_eq, tst_eq, evl_eq, itr_eq, e_add, e_sub, e_mul_l, e_mul_r, e_div, e_mod, e_adds, e_addl, e_set, e_rho_nil, e_rho, e_fint, e_fstr, e_fnone, e_fbool, e_flist, e_ftup, e_rv, e_rl, e_rd, e_putd, e_puts, e_putRd, e_putRs, e_tup, e_putn, e_putc, e_thn, e_thr, e_lt, e_le, e_gt, e_ge, e_eqi, e_nei, e_eqs, e_nes, e_is, e_isnot, e_len_l, e_len_t, e_len_s, e_tb, e_ti, e_tl, e_tn, e_inc, fix_d, fl_nil, fl_int, fl_str, fl_none, fl_bool, fl_tup, ofS_beq, String.reduceBEq, Bool.and_true, Bool.true_and, e_idx_s, e_idx_l, e_idx_t, e_sls, e_sll, hi_none, lo_none, le_line, le_lineI, rng_lo, fls_nil, fls_d, newL_d, fixT_d, S_length, Option.bind_eq_bind, Option.bind_some, Option.map_some, Option.bind_none, Option.map_none, if_true, if_false, Bool.false_eq_true, decide_eq_true_eq, List.map_cons, List.map_nil, List.length_cons, List.length_nil, and_self, and_true, true_and, true_or, or_true, not_true, not_false, List.mem_cons, List.not_mem_nil, or_false, false_or, or_self, String.reduceEq, reduceIte, ne_eq, Int.reduceLT, Int.reduceLE, Nat.reduceAdd, Nat.reduceLeDiff, Int.reducePow, Int.reduceNeg, Int.reduceBEq, Int.reduceEq, Int.reduceToNat, Int.reduceAdd, Int.reduceSub, Int.reduceMul, reduceCtorEq, Bool.not_true, Bool.not_false, Bool.not_eq_true, List.map_append]
      · rw [if_neg hc] at h4
        exact seqN (ifR_no (by simp only [run_eq, tst_eq, evl_eq, itr_eq, e_add, e_sub, e_mul_l, e_mul_r, e_div, e_mod, e_adds, e_addl, e_set, e_rho_nil, e_rho, e_fint, e_fstr, e_fnone, e_fbool, e_flist, e_ftup, e_rv, e_rl, e_rd, e_putd, e_puts, e_putRd, e_putRs, e_tup, e_putn, e_putc, e_thn, e_thr, e_lt, e_le, e_gt, e_ge, e_eqi, e_nei, e_eqs, e_nes, e_is, e_isnot, e_len_l, e_len_t, e_len_s, e_tb, e_ti, e_tl, e_tn, e_inc, fix_d, fl_nil, fl_int, fl_str, fl_none, fl_bool, fl_tup, ofS_beq, String.reduceBEq, Bool.and_true, Bool.true_and, e_idx_s, e_idx_l, e_idx_t, e_sls, e_sll, hi_none, lo_none, le_line, le_lineI, rng_lo, fls_nil, fls_d, newL_d, fixT_d, S_length, Option.bind_eq_bind, Option.bind_some, Option.map_some, Option.bind_none, Option.map_none, if_true, if_false, Bool.false_eq_true, decide_eq_true_eq, List.map_cons, List.map_nil, List.length_cons, List.length_nil, and_self, and_true, true_and, true_or, or_true, not_true, not_false, List.mem_cons, List.not_mem_nil, or_false, false_or, or_self, String.reduceEq, reduceIte, ne_eq, Int.reduceLT, Int.reduceLE, Nat.reduceAdd, Nat.reduceLeDiff, Int.reducePow, Int.reduceNeg, Int.reduceBEq, Int.reduceEq, Int.reduceToNat, Int.reduceAdd, Int.reduceSub, Int.reduceMul, reduceCtorEq, Bool.not_true, Bool.not_false, Bool.not_eq_true, h2, e_eqo, decide_eq_false hc]) rfl) (doneN ⟨fs, cur, by simp only [run_eq, tst_eq, evl_eq, itr_eq, e_add, e_sub, e_mul_l, e_mul_r, e_div, e_mod, e_adds, e_addl, e_set, e_rho_nil, e_rho, e_fint, e_fstr, e_fnone, e_fbool, e_flist, e_ftup, e_rv, e_rl, e_rd, e_putd, e_puts, e_putRd, e_putRs, e_tup, e_putn, e_putc, e_thn, e_thr, e_lt, e_le, e_gt, e_ge, e_eqi, e_nei, e_eqs, e_nes, e_is, e_isnot, e_len_l, e_len_t, e_len_s, e_tb, e_ti, e_tl, e_tn, e_inc, fix_d, fl_nil, fl_int, fl_str, fl_none, fl_bool, fl_tup, ofS_beq, String.reduceBEq, Bool.and_true, Bool.true_and, e_idx_s, e_idx_l, e_idx_t, e_sls, e_sll, hi_none, lo_none, le_line, le_lineI, rng_lo, fls_nil, fls_d, newL_d, fixT_d, S_length, Option.bind_eq_bind, Option.bind_some, Option.map_some, Option.bind_none, Option.map_none, if_true, if_false, Bool.false_eq_true, decide_eq_true_eq, List.map_cons, List.map_nil, List.length_cons, List.length_nil, and_self, and_true, true_and, true_or, or_true, not_true, not_false, List.mem_cons, List.not_mem_nil, or_false, false_or, or_self, String.reduceEq, reduceIte, ne_eq, Int.reduceLT, Int.reduceLE, Nat.reduceAdd, Nat.reduceLeDiff, Int.reducePow, Int.reduceNeg, Int.reduceBEq, Int.reduceEq, Int.reduceToNat, Int.reduceAdd, Int.reduceSub, Int.reduceMul, reduceCtorEq, Bool.not_true, Bool.not_false, Bool.not_eq_true, h1], by simp only [run_eq, tst_eq, evl_eq, itr_eq, e_add, e_sub, e_mul_l, e_mul_r, e_div, e_mod, e_adds, e_addl, e_set, e_rho_nil, e_rho, e_fint, e_fstr, e_fnone, e_fbool, e_flist, e_ftup, e_rv, e_rl, e_rd, e_putd, e_puts, e_putRd, e_putRs, e_tup, e_putn, e_putc, e_thn, e_thr, e_lt, e_le, e_gt, e_ge, e_eqi, e_nei, e_eqs, e_nes, e_is, e_isnot, e_len_l, e_len_t, e_len_s, e_tb, e_ti, e_tl, e_tn, e_inc, fix_d, fl_nil, fl_int, fl_str, fl_none, fl_bool, fl_tup, ofS_beq, String.reduceBEq, Bool.and_true, Bool.true_and, e_idx_s, e_idx_l, e_idx_t, e_sls, e_sll, hi_none, lo_none, le_line, le_lineI, rng_lo, fls_nil, fls_d, newL_d, fixT_d, S_length, Option.bind_eq_bind, Option.bind_some, Option.map_some, Option.bind_none, Option.map_none, if_true, if_false, Bool.false_eq_true, decide_eq_true_eq, List.map_cons, List.map_nil, List.length_cons, List.length_nil, and_self, and_true, true_and, true_or, or_true, not_true, not_false, List.mem_cons, List.not_mem_nil, or_false, false_or, or_self, String.reduceEq, reduceIte, ne_eq, Int.reduceLT, Int.reduceLE, Nat.reduceAdd, Nat.reduceLeDiff, Int.reducePow, Int.reduceNeg, Int.reduceBEq, Int.reduceEq, Int.reduceToNat, Int.reduceAdd, Int.reduceSub, Int.reduceMul, reduceCtorEq, Bool.not_true, Bool.not_false, Bool.not_eq_true, h2], by omega, h4⟩)
    · obtain ⟨_, fs, cur, h1, _, _, h4⟩ := h
      rw [List.length_map, List.drop_length, scan, List.append_nil] at h4
      rw [h1, h4]
  · intro ρ hf
    simp only [run_eq, tst_eq, evl_eq, itr_eq, e_add, e_sub, e_mul_l, e_mul_r, e_div, e_mod, e_adds, e_addl, e_set, e_rho_nil, e_rho, e_fint, e_fstr, e_fnone, e_fbool, e_flist, e_ftup, e_rv, e_rl, e_rd, e_putd, e_puts, e_putRd, e_putRs, e_tup, e_putn, e_putc, e_thn, e_thr, e_lt, e_le, e_gt, e_ge, e_eqi, e_nei, e_eqs, e_nes, e_is, e_isnot, e_len_l, e_len_t, e_len_s, e_tb, e_ti, e_tl, e_tn, e_inc, fix_d, fl_nil, fl_int, fl_str, fl_none, fl_bool, fl_tup, ofS_beq, String.reduceBEq, Bool.and_true, Bool.true_and, e_idx_s, e_idx_l, e_idx_t, e_sls, e_sll, hi_none, lo_none, le_line, le_lineI, rng_lo, fls_nil, fls_d, newL_d, fixT_d, S_length, Option.bind_eq_bind, Option.bind_some, Option.map_some, Option.bind_none, Option.map_none, if_true, if_false, Bool.false_eq_true, decide_eq_true_eq, List.map_cons, List.map_nil, List.length_cons, List.length_nil, and_self, and_true, true_and, true_or, or_true, not_true, not_false, List.mem_cons, List.not_mem_nil, or_false, false_or, or_self, String.reduceEq, reduceIte, ne_eq, Int.reduceLT, Int.reduceLE, Nat.reduceAdd, Nat.reduceLeDiff, Int.reducePow, Int.reduceNeg, Int.reduceBEq, Int.reduceEq, Int.reduceToNat, Int.reduceAdd, Int.reduceSub, Int.reduceMul, reduceCtorEq, Bool.not_true, Bool.not_false, Bool.not_eq_true, hf]
theorem chain_tail {ps : Plots} {x : List Nat} {c : List (List Nat)} (h : Chain ps (x :: c)) : Chain ps c := fun i n hi => by simpa using h (i + 1) n (by simpa using hi)
theorem scan_chain (l : List Int) : ∀ k, k ≤ (plotsS l).length → ∀ j, j < k → ∀ c, Chain (plotsS l) c → c[0]? = some (nameS l j) → scan ((plotsS l).take k).reverse (some (nameS l j)) = c := by
  intro k
  induction k with
  | zero => intro _ j hj; omega
  | succ k ih =>
    intro hk j hj c hc h0
    have hg := plots_get (l := l) (show k < (plotsS l).length by omega)
    rw [List.take_add_one, hg]
    simp only [Option.toList_some, List.reverse_append, List.reverse_cons, List.reverse_nil, List.nil_append, List.singleton_append]
    rw [scan]
    show (if some (nameS l k) = some (nameS l j) then nameS l k :: scan ((plotsS l).take k).reverse (outerS l k) else scan ((plotsS l).take k).reverse (some (nameS l j))) = c
    by_cases e : j = k
    · subst e
      rw [if_pos rfl]
      cases c with
      | nil => simp at h0
      | cons x c =>
        simp at h0
        subst h0
        have ht := chain_tail hc
        have hl := hc 0 _ rfl
        rw [plots_lookup (show j < (plotsS l).length by omega)] at hl
        simp only [Option.some.injEq, List.getElem?_cons_succ] at hl
        congr 1
        rw [hl]
        cases hc0 : c[0]? with
        | none =>
          rw [scan_none]
          cases c with
          | nil => rfl
          | cons y c => simp at hc0
        | some y =>
          rw [hc0] at hl
          have hp := pick_le l j
          unfold outerS at hl
          split at hl
          · cases hl
            rename_i hlt
            exact ih (by omega) (pickS l j).toNat (by omega) c ht hc0
          · cases hl
    · rw [if_neg (fun h => e (name_inj (Option.some.inj h)).symm)]
      exact ih (by omega) j (by omega) c hc h0
theorem scan_all {l : List Int} {p : List Nat} (hp : p ∈ (plotsS l).map (·.1)) : ∃ c, Chain (plotsS l) c ∧ c[0]? = some p ∧ c.length ≤ 90 ∧ scan (plotsS l).reverse (some p) = c := by
  obtain ⟨c, h1, h2, h3⟩ := names_chain hp
  refine ⟨c, h1, h2, h3, ?_⟩
  rw [plots_fst] at hp
  obtain ⟨j, hj, rfl⟩ := List.mem_map.mp hp
  have := List.mem_range.mp hj
  have hl := plots_len l
  have := scan_chain l (plotsS l).length (Nat.le_refl _) j (by omega) c h1 h2
  rwa [List.take_length] at this
end Mine

/-! text F08_behind -/
set_option autoImplicit false
set_option maxRecDepth 100000
set_option maxHeartbeats 4000000
set_option linter.unusedSimpArgs false
set_option linter.unusedVariables false

namespace Mine
open PySem PySem.Calls
variable {w : World} {hb : Heap}
noncomputable def laidS (f : Fact) (n p : List Nat) : List Fact := match f with
  | .name m o => if m = n then [] else [.name m o]
  | .plot q b => if Fact.plot q b = .plot p true then [.plot q b, .name n (some p)] else [.plot q b]
noncomputable def sharedS (f : Fact) (n o : List Nat) : List Fact := match f with
  | .plot q b => [.plot q b]
  | .name m v => if n = o then [.name m v] else if m = o then [.name m v, .name n v] else if m = n then [] else [.name m v]
noncomputable def givenS (c : List (List Nat)) (p : List Nat) (f : Fact) : List Fact := match f with
  | .plot q b => if p ∈ c then [.plot q false] else [.plot q b]
  | .name m none => [.name m none]
  | .name m (some []) => [.name m (some [])]
  | .name m (some x) => if p ∈ c then [.name m (some [])] else [.name m (some x)]
/-- the plot that a fact tells of -/
noncomputable def plotOf : Fact → Option (List Nat)
  | .plot q _ => some q
  | .name _ (some (x :: xs)) => some (x :: xs)
  | _ => none
noncomputable def behindS (c : List (List Nat)) (r : Row) (f : Fact) : List Fact := match r with
  | .op p => (match f with | .plot q b => if q = p then [.plot p true] else [.plot q b] | f => [f])
  | .lay n p _ => laidS f n p
  | .copy n _ p => laidS f n p
  | .same n o => sharedS f n o
  | .give p => givenS c p f
  | _ => [f]
theorem fact_where (m : List Nat) (o : Option (List Nat)) : PyData.tuple [.str (Str.ofString "name"), strP m, optP o] = factP (.name m o) := rfl
theorem e_in_strs (p : List Nat) (c : List (List Nat)) : aCmp .In (strP p) (.list (c.map strP)) = some (decide (p ∈ c)) := by
  have h : (nd (strP p) && nds (c.map strP) && decide (min (PyData.depthAll (c.map strP)) (strP p).depth ≤ 60)) = true := by
    have := (plain_strP p).2
    simp only [(plain_strP p).1, nds_map plain_strP c, Bool.and_self, Bool.true_and, decide_eq_true_eq]; omega
  simp only [aCmp, cmpIn, inSeq, h, if_true]
  congr 1
  induction c with
  | nil => simp
  | cons x c ih =>
    have h2 : (nd (strP p) && nds (c.map strP) && decide (min (PyData.depthAll (c.map strP)) (strP p).depth ≤ 60)) = true := by
      have := (plain_strP p).2
      simp only [(plain_strP p).1, nds_map plain_strP c, Bool.and_self, Bool.true_and, decide_eq_true_eq]; omega
    rw [List.map_cons, List.any_cons, ih h2, eqv_str, S_beq]
    by_cases e : x = p
    · subst e; simp
    · simp [e, Ne.symm e]
theorem run_of {m : Rho → Option Out} {ρ : Rho} {b o : Option Out} (h : run m ρ = b) (h' : b = o) : run m ρ = o := h.trans h'
theorem ret_fact {e : Rho → Option V} {ρ : Rho} {f : Fact} {fl : Fl} (h : V.fix (factP f) fl = ⟨factP f, .d⟩) (he : evl e ρ = some (V.newL [factP f] (flsOf [V.fix (factP f) fl]))) : run (fun ρ => (e ρ).bind fun v => if v.fl = .d then some (.ret v.x) else none) ρ = some (.ret (.list ([f].map factP))) := by
  rw [h, show flsOf [⟨factP f, .d⟩] = .d from rfl, newL_d] at he
  show (evl e ρ).bind _ = _
  rw [he]; rfl
theorem S_self (a : List Nat) : (S a == S a) = true := beq_self_eq_true _
theorem S_ne {a b : List Nat} (h : a ≠ b) : (S a == S b) = false := beq_eq_false_iff_ne.mpr fun e => h (S_inj e)
theorem laid_ok (B : Bui hb) (D : DefAt hb "laid" (fnS pw 3) ["fact", "name", "plot"] (fnB pw 3)) : ∃ m, DefG pw w hb 2 "laid" m ∧ ∀ (f : Fact) (n p : List Nat), m [factP f, strP n, strP p] = some (.list ((laidS f n p).map factP)) := by
  refine ⟨_, DefG.of D (n := 1) (St.cons (S1.if (Tr.all (Trs.consAnd (Tr.cmp (Ev.idx Ev.v Ev.cint) Ev.s) (Trs.consAnd (Tr.cmp (Ev.idx Ev.v Ev.cint) Ev.v) Trs.nilAnd))) (St.cons (S1.ret (Ev.list Evs.nil))
      St.nil) St.nil)
    (St.cons (S1.if (Tr.cmp Ev.v (Ev.tuple (Evs.cons Ev.s (Evs.cons Ev.v (Evs.cons Ev.cbool Evs.nil))))) (St.cons (S1.ret (Ev.list (Evs.cons Ev.v (Evs.cons (Ev.tuple (Evs.cons Ev.s (Evs.cons Ev.v (Evs.cons Ev.v Evs.nil)))) Evs.nil))))
      St.nil) St.nil)
    (St.cons (S1.ret (Ev.list (Evs.cons Ev.v Evs.nil)))
    St.nil))) _ (fun _ _ h => h), ?_⟩
  intro f n p
  refine fn_ret rfl ?_
  cases f with
  | plot q b =>
    refine seq (ifR_no (by kernel_rfl) rfl) ?_
    show _ = some (Out.ret (.list ((if Fact.plot q b = .plot p true then [Fact.plot q b, .name n (some p)] else [.plot q b]).map factP)))
    by_cases h : Fact.plot q b = .plot p true
    · rw [if_pos h]
      exact seqRet (ifR_yes (Eq.trans (b := aCmp .Eq (factP (.plot q b)) (factP (.plot p true))) (by kernel_rfl) (by rw [e_eq_fact, decide_eq_true h])) (by kernel_rfl))
    · rw [if_neg h]
      exact seq (ifR_no (Eq.trans (b := aCmp .Eq (factP (.plot q b)) (factP (.plot p true))) (by kernel_rfl) (by rw [e_eq_fact, decide_eq_false h])) rfl) (by kernel_rfl)
  | name m o =>
    show _ = some (Out.ret (.list ((if m = n then [] else [Fact.name m o]).map factP)))
    by_cases h : m = n
    · rw [if_pos h, h]
      exact seqRet (ifR_yes (Eq.trans (b := if (S n == S n) = true then some true else some false) (by kernel_rfl) (by rw [S_self]; rfl)) (by kernel_rfl))
    · rw [if_neg h]
      have hne : Fact.name m o ≠ .plot p true := fun e => by cases e
      exact seq (ifR_no (Eq.trans (b := if (S m == S n) = true then some true else some false) (by kernel_rfl) (by rw [S_ne h]; rfl)) rfl) (seq (ifR_no (Eq.trans (b := aCmp .Eq (factP (.name m o)) (factP (.plot p true))) (by kernel_rfl) (by rw [e_eq_fact, decide_eq_false hne])) rfl) (seqRet (ret_fact (fix_fact (.name m o) .s) (by kernel_rfl))))
theorem shared_ok (B : Bui hb) (D : DefAt hb "shared" (fnS pw 4) ["fact", "name", "other"] (fnB pw 4)) : ∃ m, DefG pw w hb 2 "shared" m ∧ ∀ (f : Fact) (n o : List Nat), m [factP f, strP n, strP o] = some (.list ((sharedS f n o).map factP)) := by
  refine ⟨_, DefG.of D (n := 1) (St.cons (S1.if (Tr.all (Trs.consOr (Tr.cmp (Ev.idx Ev.v Ev.cint) Ev.s) (Trs.consOr (Tr.cmp Ev.v Ev.v) Trs.nilOr))) (St.cons (S1.ret (Ev.list (Evs.cons Ev.v Evs.nil)))
      St.nil) St.nil)
    (St.cons (S1.if (Tr.cmp (Ev.idx Ev.v Ev.cint) Ev.v) (St.cons (S1.ret (Ev.list (Evs.cons Ev.v (Evs.cons (Ev.tuple (Evs.cons Ev.s (Evs.cons Ev.v (Evs.cons (Ev.idx Ev.v Ev.cint) Evs.nil)))) Evs.nil))))
      St.nil) St.nil)
    (St.cons (S1.ret (Ev.comp (locs := [".0", "one"]) (by decide +kernel) (It.data (Ev.list (Evs.cons Ev.v Evs.nil))) (TgL.name (by decide +kernel) (by decide +kernel)) (Ifs.one (Tr.cmp (Ev.idx Ev.v Ev.cint) Ev.v)) Ev.v))
    St.nil))) _ (fun _ _ h => h), ?_⟩
  intro f n o
  refine fn_ret rfl ?_
  cases f with
  | plot q b => kernel_rfl
  | name m v =>
    show _ = some (Out.ret (.list ((if n = o then [Fact.name m v] else if m = o then [.name m v, .name n v] else if m = n then [] else [.name m v]).map factP)))
    by_cases h1 : n = o
    · rw [if_pos h1, h1]
      exact seqRet (ifR_yes (Eq.trans (b := if (S o == S o) = true then some true else some false) (by kernel_rfl) (by rw [S_self]; rfl)) (seqRet (ret_fact (fix_fact (.name m v) .s) (by kernel_rfl))))
    · rw [if_neg h1]
      refine seq (ifR_no (Eq.trans (b := if (S n == S o) = true then some true else some false) (by kernel_rfl) (by rw [S_ne h1]; rfl)) rfl) ?_
      by_cases h2 : m = o
      · rw [if_pos h2, h2]
        refine seqRet (ifR_yes (Eq.trans (b := some (S o == S o)) (by kernel_rfl) (by rw [S_self])) (seqRet ?_))
        cases v <;> kernel_rfl
      · rw [if_neg h2]
        refine seq (ifR_no (Eq.trans (b := some (S m == S o)) (by kernel_rfl) (by rw [S_ne h2])) rfl) ?_
        by_cases h3 : m = n
        · rw [if_pos h3, h3]
          refine seqRet (run_of (b := (((if (!(S n == S n)) = true then some [factP (.name n v)] else some []).map fun ys => (⟨.list ys, .d⟩ : V)).bind fun v => if v.fl = .d then some (Out.ret v.x) else none)) (by cases v <;> kernel_rfl) (by rw [S_self]; rfl))
        · rw [if_neg h3]
          refine seqRet (run_of (b := (((if (!(S m == S n)) = true then some [factP (.name m v)] else some []).map fun ys => (⟨.list ys, .d⟩ : V)).bind fun v => if v.fl = .d then some (Out.ret v.x) else none)) (by cases v <;> kernel_rfl) (by rw [S_ne h3]; rfl))
theorem given_ok (B : Bui hb) (D : DefAt hb "given_back" (fnS pw 5) ["plots", "plot", "fact"] (fnB pw 5)) {m_out : List PyData → Option PyData}
    (h_outward : DefG pw w hb 2 "outward" m_out) (e_out : ∀ (ps : Plots) (c : List (List Nat)) (n : List Nat), (ps.map (·.1)).Nodup → ps.length ≤ 900 → Chain ps c → c[0]? = some n → c.length ≤ 90 → m_out [.list (ps.map plotP), strP n] = some (.list (c.map strP))) :
    ∃ m, DefG pw w hb 3 "given_back" m ∧ ∀ (ps : Plots) (p : List Nat) (f : Fact) (c : List (List Nat)), (ps.map (·.1)).Nodup → ps.length ≤ 900 → (∀ q, plotOf f = some q → Chain ps c ∧ c[0]? = some q ∧ c.length ≤ 90) →
      m [.list (ps.map plotP), strP p, factP f] = some (.list ((givenS c p f).map factP)) := by
  refine ⟨_, DefG.of D (n := 2) (St.cons (S1.if (Tr.cmp (Ev.idx Ev.v Ev.cint) Ev.s) (St.cons (S1.if (Tr.cmp Ev.v (Ev.def h_outward (Evs.cons Ev.v (Evs.cons (Ev.idx Ev.v Ev.cint) Evs.nil)))) (St.cons (S1.ret (Ev.list (Evs.cons (Ev.tuple (Evs.cons Ev.s (Evs.cons (Ev.idx Ev.v Ev.cint) (Evs.cons Ev.cbool Evs.nil)))) Evs.nil)))
        St.nil) St.nil)
      (St.cons (S1.ret (Ev.list (Evs.cons Ev.v Evs.nil)))
      St.nil)) St.nil)
    (St.cons (S1.if (Tr.all (Trs.consAnd (Tr.cmp (Ev.idx Ev.v Ev.cint) Ev.cnone) (Trs.consAnd (Tr.cmp (Ev.idx Ev.v Ev.cint) Ev.s) (Trs.consAnd (Tr.cmp Ev.v (Ev.def h_outward (Evs.cons Ev.v (Evs.cons (Ev.idx Ev.v Ev.cint) Evs.nil)))) Trs.nilAnd)))) (St.cons (S1.ret (Ev.list (Evs.cons (Ev.tuple (Evs.cons Ev.s (Evs.cons (Ev.idx Ev.v Ev.cint) (Evs.cons Ev.s Evs.nil)))) Evs.nil)))
      St.nil) St.nil)
    (St.cons (S1.ret (Ev.list (Evs.cons Ev.v Evs.nil)))
    St.nil))) _ (fun _ _ h => h), ?_⟩
  intro ps p f c hnd hlen hc
  refine fn_ret rfl ?_
  cases f with
  | plot q b =>
    obtain ⟨c1, c2, c3⟩ := hc q rfl
    have ho := e_out ps c q hnd hlen c1 c2 c3
    refine seqRet (ifR_yes (by kernel_rfl) ?_)
    show _ = some (Out.ret (.list ((if p ∈ c then [Fact.plot q false] else [.plot q b]).map factP)))
    by_cases h : p ∈ c
    · rw [if_pos h]
      exact seqRet (ifR_yes (Eq.trans (b := ((m_out [.list (ps.map plotP), strP q]).map fun y => (⟨y, .d⟩ : V)).bind fun v => aCmp .In (strP p) v.x) (by kernel_rfl) (by rw [ho]; exact (e_in_strs p c).trans (by rw [decide_eq_true h]))) (by kernel_rfl))
    · rw [if_neg h]
      exact seq (ifR_no (Eq.trans (b := ((m_out [.list (ps.map plotP), strP q]).map fun y => (⟨y, .d⟩ : V)).bind fun v => aCmp .In (strP p) v.x) (by kernel_rfl) (by rw [ho]; exact (e_in_strs p c).trans (by rw [decide_eq_false h]))) rfl) (by kernel_rfl)
  | name m o =>
    refine seq (ifR_no (by kernel_rfl) rfl) ?_
    cases o with
    | none => kernel_rfl
    | some x =>
      cases x with
      | nil => kernel_rfl
      | cons a x =>
        obtain ⟨c1, c2, c3⟩ := hc (a :: x) rfl
        have ho := e_out ps c (a :: x) hnd hlen c1 c2 c3
        have hne : (S (a :: x) == Str.ofString "") = false := by rw [S_nil, S_beq]; simp
        show _ = some (Out.ret (.list ((if p ∈ c then [Fact.name m (some [])] else [.name m (some (a :: x))]).map factP)))
        by_cases h : p ∈ c
        · rw [if_pos h]
          exact seqRet (ifR_yes (by simp only [run_eq, tst_eq, evl_eq, itr_eq, e_add, e_sub, e_mul_l, e_mul_r, e_div, e_mod, e_adds, e_addl, e_set, e_rho_nil, e_rho, e_fint, e_fstr, e_fnone, e_fbool, e_flist, e_ftup, e_rv, e_rl, e_rd, e_putd, e_puts, e_putRd, e_putRs, e_tup, e_putn, e_putc, e_thn, e_thr, e_lt, e_le, e_gt, e_ge, e_eqi, e_nei, e_eqs, e_nes, e_is, e_isnot, e_len_l, e_len_t, e_len_s, e_tb, e_ti, e_tl, e_tn, e_inc, fix_d, fl_nil, fl_int, fl_str, fl_none, fl_bool, fl_tup, ofS_beq, String.reduceBEq, Bool.and_true, Bool.true_and, e_idx_s, e_idx_l, e_idx_t, e_sls, e_sll, hi_none, lo_none, le_line, le_lineI, rng_lo, fls_nil, fls_d, newL_d, fixT_d, S_length, Option.bind_eq_bind, Option.bind_some, Option.map_some, Option.bind_none, Option.map_none, if_true, if_false, Bool.false_eq_true, decide_eq_true_eq, List.map_cons, List.map_nil, List.length_cons, List.length_nil, and_self, and_true, true_and, true_or, or_true, not_true, not_false, List.mem_cons, List.not_mem_nil, or_false, false_or, or_self, String.reduceEq, reduceIte, ne_eq, Int.reduceLT, Int.reduceLE, Nat.reduceAdd, Nat.reduceLeDiff, Int.reducePow, Int.reduceNeg, Int.reduceBEq, Int.reduceEq, Int.reduceToNat, Int.reduceAdd, Int.reduceSub, Int.reduceMul, reduceCtorEq, Bool.not_true, Bool.not_false, Bool.not_eq_true, factP, optP, sq2, isNone, hne, ho, e_in_strs, decide_eq_true h]) (by kernel_rfl))
        · rw [if_neg h]
          exact seq (ifR_no (by simp only [run_eq, tst_eq, evl_eq, itr_eq, e_add, e_sub, e_mul_l, e_mul_r, e_div, e_mod, e_adds, e_addl, e_set, e_rho_nil, e_rho, e_fint, e_fstr, e_fnone, e_fbool, e_flist, e_ftup, e_rv, e_rl, e_rd, e_putd, e_puts, e_putRd, e_putRs, e_tup, e_putn, e_putc, e_thn, e_thr, e_lt, e_le, e_gt, e_ge, e_eqi, e_nei, e_eqs, e_nes, e_is, e_isnot, e_len_l, e_len_t, e_len_s, e_tb, e_ti, e_tl, e_tn, e_inc, fix_d, fl_nil, fl_int, fl_str, fl_none, fl_bool, fl_tup, ofS_beq, String.reduceBEq, Bool.and_true, Bool.true_and, e_idx_s, e_idx_l, e_idx_t, e_sls, e_sll, hi_none, lo_none, le_line, le_lineI, rng_lo, fls_nil, fls_d, newL_d, fixT_d, S_length, Option.bind_eq_bind, Option.bind_some, Option.map_some, Option.bind_none, Option.map_none, if_true, if_false, Bool.false_eq_true, decide_eq_true_eq, List.map_cons, List.map_nil, List.length_cons, List.length_nil, and_self, and_true, true_and, true_or, or_true, not_true, not_false, List.mem_cons, List.not_mem_nil, or_false, false_or, or_self, String.reduceEq, reduceIte, ne_eq, Int.reduceLT, Int.reduceLE, Nat.reduceAdd, Nat.reduceLeDiff, Int.reducePow, Int.reduceNeg, Int.reduceBEq, Int.reduceEq, Int.reduceToNat, Int.reduceAdd, Int.reduceSub, Int.reduceMul, reduceCtorEq, Bool.not_true, Bool.not_false, Bool.not_eq_true, factP, optP, sq2, isNone, hne, ho, e_in_strs, decide_eq_false h]) rfl) (by kernel_rfl)
theorem behind_ok (B : Bui hb) (D : DefAt hb "behind" (fnS pw 6) ["plots", "row", "fact"] (fnB pw 6)) {m_la m_sh m_gi : List PyData → Option PyData}
    (h_laid : DefG pw w hb 2 "laid" m_la) (e_la : ∀ (f : Fact) (n p : List Nat), m_la [factP f, strP n, strP p] = some (.list ((laidS f n p).map factP)))
    (h_shared : DefG pw w hb 2 "shared" m_sh) (e_sh : ∀ (f : Fact) (n o : List Nat), m_sh [factP f, strP n, strP o] = some (.list ((sharedS f n o).map factP)))
    (h_given_back : DefG pw w hb 3 "given_back" m_gi) (e_gi : ∀ (ps : Plots) (p : List Nat) (f : Fact) (c : List (List Nat)), (ps.map (·.1)).Nodup → ps.length ≤ 900 → (∀ q, plotOf f = some q → Chain ps c ∧ c[0]? = some q ∧ c.length ≤ 90) →
      m_gi [.list (ps.map plotP), strP p, factP f] = some (.list ((givenS c p f).map factP))) :
    ∃ m, DefG pw w hb 4 "behind" m ∧ ∀ (ps : Plots) (r : Row) (f : Fact) (c : List (List Nat)), (ps.map (·.1)).Nodup → ps.length ≤ 900 → (∀ q, plotOf f = some q → Chain ps c ∧ c[0]? = some q ∧ c.length ≤ 90) →
      m [.list (ps.map plotP), rowP r, factP f] = some (.list ((behindS c r f).map factP)) := by
  refine ⟨_, DefG.of D (n := 3) (St.cons (S1.if (Tr.all (Trs.consAnd (Tr.cmp (Ev.idx Ev.v Ev.cint) Ev.s) (Trs.consAnd (Tr.cmp (Ev.idx Ev.v Ev.cint) Ev.s) (Trs.consAnd (Tr.cmp (Ev.idx Ev.v Ev.cint) (Ev.idx Ev.v Ev.cint)) Trs.nilAnd)))) (St.cons (S1.ret (Ev.list (Evs.cons (Ev.tuple (Evs.cons Ev.s (Evs.cons (Ev.idx Ev.v Ev.cint) (Evs.cons Ev.cbool Evs.nil)))) Evs.nil)))
      St.nil) St.nil)
    (St.cons (S1.if (Tr.cmp (Ev.idx Ev.v Ev.cint) Ev.s) (St.cons (S1.ret (Ev.def h_laid (Evs.cons Ev.v (Evs.cons (Ev.idx Ev.v Ev.cint) (Evs.cons (Ev.idx Ev.v Ev.cint) Evs.nil)))))
      St.nil) St.nil)
    (St.cons (S1.if (Tr.cmp (Ev.idx Ev.v Ev.cint) Ev.s) (St.cons (S1.ret (Ev.def h_laid (Evs.cons Ev.v (Evs.cons (Ev.idx Ev.v Ev.cint) (Evs.cons (Ev.idx Ev.v Ev.cint) Evs.nil)))))
      St.nil) St.nil)
    (St.cons (S1.if (Tr.cmp (Ev.idx Ev.v Ev.cint) Ev.s) (St.cons (S1.ret (Ev.def h_shared (Evs.cons Ev.v (Evs.cons (Ev.idx Ev.v Ev.cint) (Evs.cons (Ev.idx Ev.v Ev.cint) Evs.nil)))))
      St.nil) St.nil)
    (St.cons (S1.if (Tr.cmp (Ev.idx Ev.v Ev.cint) Ev.s) (St.cons (S1.ret (Ev.def h_given_back (Evs.cons Ev.v (Evs.cons (Ev.idx Ev.v Ev.cint) (Evs.cons Ev.v Evs.nil)))))
      St.nil) St.nil)
    (St.cons (S1.ret (Ev.list (Evs.cons Ev.v Evs.nil)))
    St.nil)))))) _ (fun _ _ h => h), ?_⟩
  intro ps r f c hnd hlen hc
  refine fn_ret rfl ?_
  cases r with
  | op p =>
    cases f with
    | plot q b =>
      show _ = some (Out.ret (.list ((if q = p then [Fact.plot p true] else [.plot q b]).map factP)))
      by_cases h : q = p
      · rw [if_pos h, h]
        exact seqRet (ifR_yes (Eq.trans (b := if (S p == S p) = true then some true else some false) (by kernel_rfl) (by rw [S_self]; rfl)) (by kernel_rfl))
      · rw [if_neg h]
        exact seq (ifR_no (Eq.trans (b := if (S q == S p) = true then some true else some false) (by kernel_rfl) (by rw [S_ne h]; rfl)) rfl) (by kernel_rfl)
    | name m o =>
      exact seq (ifR_no (by kernel_rfl) rfl) (seq (ifR_no (by kernel_rfl) rfl) (seq (ifR_no (by kernel_rfl) rfl) (seq (ifR_no (by kernel_rfl) rfl) (seq (ifR_no (by kernel_rfl) rfl) (seqRet (ret_fact (fix_fact (.name m o) .s) (by kernel_rfl)))))))
  | lay n p i =>
    refine seq (ifR_no (by kernel_rfl) rfl) (seqRet (ifR_yes (by kernel_rfl) (seqRet (run_of (b := (((m_la [factP f, strP n, strP p]).map fun y => (⟨y, .d⟩ : V)).bind fun v => if v.fl = .d then some (Out.ret v.x) else none)) (by kernel_rfl) ?_))))
    rw [e_la]; rfl
  | copy n o p =>
    refine seq (ifR_no (by kernel_rfl) rfl) (seq (ifR_no (by kernel_rfl) rfl) (seqRet (ifR_yes (by kernel_rfl) (seqRet (run_of (b := (((m_la [factP f, strP n, strP p]).map fun y => (⟨y, .d⟩ : V)).bind fun v => if v.fl = .d then some (Out.ret v.x) else none)) (by kernel_rfl) ?_)))))
    rw [e_la]; rfl
  | same n o =>
    refine seq (ifR_no (by kernel_rfl) rfl) (seq (ifR_no (by kernel_rfl) rfl) (seq (ifR_no (by kernel_rfl) rfl) (seqRet (ifR_yes (by kernel_rfl) (seqRet (run_of (b := (((m_sh [factP f, strP n, strP o]).map fun y => (⟨y, .d⟩ : V)).bind fun v => if v.fl = .d then some (Out.ret v.x) else none)) (by kernel_rfl) ?_))))))
    rw [e_sh]; rfl
  | give p =>
    have hg := e_gi ps p f c hnd hlen hc
    refine seq (ifR_no (by kernel_rfl) rfl) (seq (ifR_no (by kernel_rfl) rfl) (seq (ifR_no (by kernel_rfl) rfl) (seq (ifR_no (by kernel_rfl) rfl) (seqRet (ifR_yes (by kernel_rfl) (seqRet (run_of (b := (((m_gi [.list (ps.map plotP), strP p, factP f]).map fun y => (⟨y, .d⟩ : V)).bind fun v => if v.fl = .d then some (Out.ret v.x) else none)) (by kernel_rfl) ?_)))))))
    rw [hg]; rfl
  | _ =>
    exact seq (ifR_no (by kernel_rfl) rfl) (seq (ifR_no (by kernel_rfl) rfl) (seq (ifR_no (by kernel_rfl) rfl) (seq (ifR_no (by kernel_rfl) rfl) (seq (ifR_no (by kernel_rfl) rfl) (seqRet (ret_fact (fix_fact f .s) (by kernel_rfl)))))))
end Mine

/-! text F08_lawbehind -/
set_option autoImplicit false
set_option maxRecDepth 100000
set_option maxHeartbeats 4000000
set_option linter.unusedSimpArgs false
set_option linter.unusedVariables false

namespace Mine
open PySem PySem.Calls
variable {w : World} {hb : Heap}
theorem in2 (x : String) : aCmp .In (.str (Str.ofString x)) (.tuple [.str (Str.ofString "lay"), .str (Str.ofString "copy")]) = some ("lay" == x || ("copy" == x || false)) := by
  rw [← ofS_beq, ← ofS_beq]; rfl
theorem shut_none {f : Fact} {p : List Nat} (h : shutS f p = "") : f ≠ .plot p false := by
  intro e
  unfold shutS at h
  rw [if_pos e] at h
  exact absurd h (by decide)
theorem laid_plot {q n p : List Nat} {b : Bool} (h : Fact.plot q b ≠ .plot p false) : laidS (.plot q b) n p = if q = p then [.plot q b, .name n (some q)] else [.plot q b] := by
  show (if Fact.plot q b = .plot p true then [Fact.plot q b, .name n (some p)] else [.plot q b]) = _
  by_cases e : q = p
  · subst e
    cases b with
    | true => simp
    | false => exact absurd rfl h
  · rw [if_neg e, if_neg (fun x => e (by cases x; rfl))]
theorem lawbehind_ok (B : Bui hb) (D : DefAt hb "_law_behind" (fnS pw 17) ["_law_plots_here", "_law_row_here", "_law_fact_here"] (fnB pw 17)) {m_lo : List PyData → Option PyData} (h_law_outward : DefG pw w hb 2 "_law_outward" m_lo) (e_lo : ∀ (ps : Plots) (n : List Nat), ps.length ≤ 900 → m_lo [.list (ps.map plotP), strP n] = some (.list ((scan ps.reverse (some n)).map strP))) :
    ∃ m, DefG pw w hb 3 "_law_behind" m ∧ ∀ (ps : Plots) (r : Row) (f : Fact) (c : List (List Nat)), ps.length ≤ 900 → wrongS ps r f = "" → (∀ q, plotOf f = some q → scan ps.reverse (some q) = c) →
      m [.list (ps.map plotP), rowP r, factP f] = some (.list ((behindS c r f).map factP)) := by
  refine ⟨_, DefG.of D (n := 2) (St.cons (S1.assignTg Ev.v (Tg.tuple (xs := ["_law_kind_here", "_law_thing", "_law_where"]) (by decide +kernel) rfl (by intro _; rfl)))
    (St.cons (S1.assign (Ev.idx Ev.v Ev.cint) (by decide +kernel))
    (St.cons (S1.if (Tr.cmp Ev.v Ev.s) (St.cons (S1.if (Tr.all (Trs.consAnd (Tr.cmp Ev.v Ev.s) (Trs.consAnd (Tr.cmp (Ev.idx Ev.v Ev.cint) Ev.v) Trs.nilAnd))) (St.cons (S1.ret (Ev.list (Evs.cons (Ev.tuple (Evs.cons Ev.s (Evs.cons Ev.v (Evs.cons Ev.cbool Evs.nil)))) Evs.nil)))
        St.nil) St.nil)
      (St.cons (S1.if (Tr.all (Trs.consAnd (Tr.cmp Ev.v Ev.s) (Trs.consAnd (Tr.cmp (Ev.idx Ev.v Ev.cint) (Ev.def h_law_outward (Evs.cons Ev.v (Evs.cons Ev.v Evs.nil)))) Trs.nilAnd))) (St.cons (S1.ret (Ev.list (Evs.cons (Ev.tuple (Evs.cons Ev.s (Evs.cons Ev.v (Evs.cons Ev.cbool Evs.nil)))) Evs.nil)))
        St.nil) St.nil)
      (St.cons (S1.if (Tr.all (Trs.consOr (Tr.all (Trs.consAnd (Tr.cmp Ev.v Ev.s) (Trs.consAnd (Tr.cmp (Ev.idx Ev.v Ev.cint) Ev.v) Trs.nilAnd))) (Trs.consOr (Tr.all (Trs.consAnd (Tr.cmp Ev.v Ev.s) (Trs.consAnd (Tr.cmp (Ev.idx Ev.v Ev.cint) Ev.v) Trs.nilAnd))) Trs.nilOr))) (St.cons (S1.ret (Ev.list (Evs.cons Ev.v (Evs.cons (Ev.tuple (Evs.cons Ev.s (Evs.cons (Ev.idx Ev.v Ev.cint) (Evs.cons Ev.v Evs.nil)))) Evs.nil))))
        St.nil) St.nil)
      (St.cons (S1.ret (Ev.list (Evs.cons Ev.v Evs.nil)))
      St.nil)))) St.nil)
    (St.cons (S1.if (Tr.all (Trs.consAnd (Tr.cmp Ev.v (Ev.tuple (Evs.cons Ev.s (Evs.cons Ev.s Evs.nil)))) (Trs.consAnd (Tr.cmp (Ev.idx Ev.v Ev.cint) Ev.v) Trs.nilAnd))) (St.cons (S1.ret (Ev.list Evs.nil))
      St.nil) St.nil)
    (St.cons (S1.if (Tr.all (Trs.consAnd (Tr.cmp Ev.v Ev.s) (Trs.consAnd (Tr.cmp (Ev.idx Ev.v Ev.cint) (Ev.idx Ev.v Ev.cint)) Trs.nilAnd))) (St.cons (S1.ret (Ev.bin (Ev.slice (Ev.list (Evs.cons Ev.v Evs.nil)) Pt.no (Pt.yes (Ev.intOf B (Evs.cons (Ev.cmp Ev.v (Ev.idx Ev.v Ev.cint)) Evs.nil))) Pt.no) (Ev.slice (Ev.list (Evs.cons (Ev.tuple (Evs.cons Ev.s (Evs.cons (Ev.idx Ev.v Ev.cint) (Evs.cons Ev.v Evs.nil)))) Evs.nil)) Pt.no (Pt.yes (Ev.intOf B (Evs.cons (Ev.cmp Ev.v (Ev.idx Ev.v Ev.cint)) Evs.nil))) Pt.no)))
      St.nil) St.nil)
    (St.cons (S1.if (Tr.all (Trs.consOr (Tr.cmp Ev.v Ev.s) (Trs.consOr (Tr.cmp Ev.v Ev.cnone) (Trs.consOr (Tr.cmp Ev.v Ev.s) Trs.nilOr)))) (St.cons (S1.ret (Ev.list (Evs.cons Ev.v Evs.nil)))
      St.nil) St.nil)
    (St.cons (S1.if (Tr.cmp (Ev.idx Ev.v Ev.cint) (Ev.def h_law_outward (Evs.cons Ev.v (Evs.cons Ev.v Evs.nil)))) (St.cons (S1.ret (Ev.list (Evs.cons (Ev.tuple (Evs.cons Ev.s (Evs.cons Ev.v (Evs.cons Ev.s Evs.nil)))) Evs.nil)))
      St.nil) St.nil)
    (St.cons (S1.ret (Ev.list (Evs.cons Ev.v Evs.nil)))
    St.nil)))))))) _ (fun _ _ h => h), ?_⟩
  intro ps r f c hlen hw hc
  refine fn_ret rfl ?_
  cases f with
  | plot q b =>
    have ho := e_lo ps q hlen
    rw [hc q rfl] at ho
    refine seqUn3 (.str (Str.ofString "plot")) (strP q) (.bool b) (by kernel_rfl) ?_
    refine seqPut (.str (Str.ofString r.parts.1)) (by kernel_rfl) ?_
    refine seqRet (ifR_yes (by kernel_rfl) ?_)
    cases r with
    | op p =>
      by_cases h : q = p
      · subst h
        rw [show behindS c (.op q) (.plot q b) = [.plot q true] from if_pos rfl]
        exact seqRet (ifR_yes (Eq.trans (b := if (S q == S q) = true then some true else some false) (by kernel_rfl) (by rw [beq_self_eq_true]; rfl)) (by kernel_rfl))
      · rw [show behindS c (.op p) (.plot q b) = [.plot q b] from if_neg h]
        have h' : (S p == S q) = false := beq_eq_false_iff_ne.mpr fun e => h (S_inj e).symm
        exact seq (ifR_no (Eq.trans (b := if (S p == S q) = true then some true else some false) (by kernel_rfl) (by rw [h']; rfl)) rfl) (by kernel_rfl)
    | lay n p i =>
      have hl := laid_plot (n := n) (shut_none (f := .plot q b) (p := p) hw)
      show _ = some (Out.ret (.list ((laidS (.plot q b) n p).map factP)))
      rw [hl]
      refine seq (ifR_no (by kernel_rfl) rfl) (seq (ifR_no (by kernel_rfl) rfl) ?_)
      by_cases h : q = p
      · subst h
        rw [if_pos rfl]
        exact seqRet (ifR_yes (Eq.trans (b := (if (S q == S q) = true then some true else some false).bind fun c => if c = true then some true else some false) (by kernel_rfl) (by rw [beq_self_eq_true]; rfl)) (by kernel_rfl))
      · rw [if_neg h]
        have h' : (S p == S q) = false := beq_eq_false_iff_ne.mpr fun e => h (S_inj e).symm
        exact seq (ifR_no (Eq.trans (b := (if (S p == S q) = true then some true else some false).bind fun c => if c = true then some true else some false) (by kernel_rfl) (by rw [h']; rfl)) rfl) (by kernel_rfl)
    | copy n o p =>
      have hl := laid_plot (n := n) (shut_none (f := .plot q b) (p := p) (by
        have : wrongS ps (.copy n o p) (.plot q b) = orS (lackS (.plot q b) o) (shutS (.plot q b) p) := rfl
        rw [this, lack_plot] at hw
        exact hw))
      show _ = some (Out.ret (.list ((laidS (.plot q b) n p).map factP)))
      rw [hl]
      refine seq (ifR_no (by kernel_rfl) rfl) (seq (ifR_no (by kernel_rfl) rfl) ?_)
      by_cases h : q = p
      · subst h
        rw [if_pos rfl]
        exact seqRet (ifR_yes (Eq.trans (b := (if (S q == S q) = true then some true else some false).bind fun c => if c = true then some true else some false) (by kernel_rfl) (by rw [beq_self_eq_true]; rfl)) (by kernel_rfl))
      · rw [if_neg h]
        have h' : (S p == S q) = false := beq_eq_false_iff_ne.mpr fun e => h (S_inj e).symm
        exact seq (ifR_no (Eq.trans (b := (if (S p == S q) = true then some true else some false).bind fun c => if c = true then some true else some false) (by kernel_rfl) (by rw [h']; rfl)) rfl) (by kernel_rfl)
    | give p =>
      show _ = some (Out.ret (.list ((if p ∈ c then [Fact.plot q false] else [.plot q b]).map factP)))
      refine seq (ifR_no (by kernel_rfl) rfl) ?_
      by_cases h : p ∈ c
      · rw [if_pos h]
        exact seqRet (ifR_yes (by simp only [run_eq, tst_eq, evl_eq, itr_eq, e_add, e_sub, e_mul_l, e_mul_r, e_div, e_mod, e_adds, e_addl, e_set, e_rho_nil, e_rho, e_fint, e_fstr, e_fnone, e_fbool, e_flist, e_ftup, e_rv, e_rl, e_rd, e_putd, e_puts, e_putRd, e_putRs, e_tup, e_putn, e_putc, e_thn, e_thr, e_lt, e_le, e_gt, e_ge, e_eqi, e_nei, e_eqs, e_nes, e_is, e_isnot, e_len_l, e_len_t, e_len_s, e_tb, e_ti, e_tl, e_tn, e_inc, fix_d, fl_nil, fl_int, fl_str, fl_none, fl_bool, fl_tup, ofS_beq, String.reduceBEq, Bool.and_true, Bool.true_and, e_idx_s, e_idx_l, e_idx_t, e_sls, e_sll, hi_none, lo_none, le_line, le_lineI, rng_lo, fls_nil, fls_d, newL_d, fixT_d, S_length, Option.bind_eq_bind, Option.bind_some, Option.map_some, Option.bind_none, Option.map_none, if_true, if_false, Bool.false_eq_true, decide_eq_true_eq, List.map_cons, List.map_nil, List.length_cons, List.length_nil, and_self, and_true, true_and, true_or, or_true, not_true, not_false, List.mem_cons, List.not_mem_nil, or_false, false_or, or_self, String.reduceEq, reduceIte, ne_eq, Int.reduceLT, Int.reduceLE, Nat.reduceAdd, Nat.reduceLeDiff, Int.reducePow, Int.reduceNeg, Int.reduceBEq, Int.reduceEq, Int.reduceToNat, Int.reduceAdd, Int.reduceSub, Int.reduceMul, reduceCtorEq, Bool.not_true, Bool.not_false, Bool.not_eq_true, fix_row, rowP, Row.parts, sq1, ho, e_in_strs, decide_eq_true h]) (seqRet (by kernel_rfl)))
      · rw [if_neg h]
        exact seq (ifR_no (by simp only [run_eq, tst_eq, evl_eq, itr_eq, e_add, e_sub, e_mul_l, e_mul_r, e_div, e_mod, e_adds, e_addl, e_set, e_rho_nil, e_rho, e_fint, e_fstr, e_fnone, e_fbool, e_flist, e_ftup, e_rv, e_rl, e_rd, e_putd, e_puts, e_putRd, e_putRs, e_tup, e_putn, e_putc, e_thn, e_thr, e_lt, e_le, e_gt, e_ge, e_eqi, e_nei, e_eqs, e_nes, e_is, e_isnot, e_len_l, e_len_t, e_len_s, e_tb, e_ti, e_tl, e_tn, e_inc, fix_d, fl_nil, fl_int, fl_str, fl_none, fl_bool, fl_tup, ofS_beq, String.reduceBEq, Bool.and_true, Bool.true_and, e_idx_s, e_idx_l, e_idx_t, e_sls, e_sll, hi_none, lo_none, le_line, le_lineI, rng_lo, fls_nil, fls_d, newL_d, fixT_d, S_length, Option.bind_eq_bind, Option.bind_some, Option.map_some, Option.bind_none, Option.map_none, if_true, if_false, Bool.false_eq_true, decide_eq_true_eq, List.map_cons, List.map_nil, List.length_cons, List.length_nil, and_self, and_true, true_and, true_or, or_true, not_true, not_false, List.mem_cons, List.not_mem_nil, or_false, false_or, or_self, String.reduceEq, reduceIte, ne_eq, Int.reduceLT, Int.reduceLE, Nat.reduceAdd, Nat.reduceLeDiff, Int.reducePow, Int.reduceNeg, Int.reduceBEq, Int.reduceEq, Int.reduceToNat, Int.reduceAdd, Int.reduceSub, Int.reduceMul, reduceCtorEq, Bool.not_true, Bool.not_false, Bool.not_eq_true, fix_row, rowP, Row.parts, sq1, ho, e_in_strs, decide_eq_false h]) rfl) (by kernel_rfl)
    | _ => kernel_rfl
  | name m v =>
    have hfl : V.fix (.tuple [.str (Str.ofString "name"), strP m, optP v]) .s = ⟨.tuple [.str (Str.ofString "name"), strP m, optP v], .d⟩ := fix_fact (.name m v) .s
    refine seqUn3 (.str (Str.ofString "name")) (strP m) (optP v) (Eq.trans (b := some (V.fix (.tuple [.str (Str.ofString "name"), strP m, optP v]) .s)) (by kernel_rfl) (congrArg some hfl)) ?_
    refine seqPut (.str (Str.ofString r.parts.1)) (by kernel_rfl) ?_
    refine seq (ifR_no (by kernel_rfl) rfl) ?_
    have hfx : flats [PyData.str (Str.ofString "name"), strP m, optP v] = true := by cases v <;> rfl
    cases r with
    | lay n p i =>
      show _ = some (Out.ret (.list ((if m = n then [] else [Fact.name m v]).map factP)))
      by_cases h : m = n
      · subst h
        rw [if_pos rfl]
        exact seqRet (ifR_yes (Eq.trans (b := if (S m == S m) = true then some true else some false) (by kernel_rfl) (by rw [beq_self_eq_true]; rfl)) (by kernel_rfl))
      · rw [if_neg h]
        have h' : (S n == S m) = false := beq_eq_false_iff_ne.mpr fun e => h (S_inj e).symm
        refine seq (ifR_no (Eq.trans (b := if (S n == S m) = true then some true else some false) (by kernel_rfl) (by rw [h']; rfl)) rfl) (seq (ifR_no (by kernel_rfl) rfl) (seqRet (ifR_yes (by kernel_rfl) (seqRet ?_))))
        exact ret_fact (fix_fact (.name m v) .s) (by kernel_rfl)
    | copy n o p =>
      show _ = some (Out.ret (.list ((if m = n then [] else [Fact.name m v]).map factP)))
      by_cases h : m = n
      · subst h
        rw [if_pos rfl]
        exact seqRet (ifR_yes (Eq.trans (b := if (S m == S m) = true then some true else some false) (by kernel_rfl) (by rw [beq_self_eq_true]; rfl)) (by kernel_rfl))
      · rw [if_neg h]
        have h' : (S n == S m) = false := beq_eq_false_iff_ne.mpr fun e => h (S_inj e).symm
        refine seq (ifR_no (Eq.trans (b := if (S n == S m) = true then some true else some false) (by kernel_rfl) (by rw [h']; rfl)) rfl) (seq (ifR_no (by kernel_rfl) rfl) (seqRet (ifR_yes (by kernel_rfl) (seqRet ?_))))
        exact ret_fact (fix_fact (.name m v) .s) (by kernel_rfl)
    | same n o =>
      show _ = some (Out.ret (.list ((if n = o then [Fact.name m v] else if m = o then [.name m v, .name n v] else if m = n then [] else [.name m v]).map factP)))
      refine seq (ifR_no (by kernel_rfl) rfl) ?_
      by_cases h1 : n = o
      · subst h1
        rw [if_pos rfl]
        refine seq (ifR_no (Eq.trans (b := if (!(S n == S n)) = true then some true else some false) (by kernel_rfl) (by rw [beq_self_eq_true]; rfl)) rfl) (seqRet (ifR_yes (by kernel_rfl) (seqRet ?_)))
        exact ret_fact (fix_fact (.name m v) .s) (by kernel_rfl)
      · rw [if_neg h1]
        have h1' : (S n == S o) = false := beq_eq_false_iff_ne.mpr fun e => h1 (S_inj e)
        refine seqRet (ifR_yes (Eq.trans (b := if (!(S n == S o)) = true then some true else some false) (by kernel_rfl) (by rw [h1']; rfl)) (seqRet ?_))
        by_cases h2 : m = o
        · have h3 : m ≠ n := fun e => h1 (e.symm.trans h2)
          have h2' : (S m == S o) = true := by rw [h2]; exact beq_self_eq_true _
          have h3' : (S m == S n) = false := beq_eq_false_iff_ne.mpr fun e => h3 (S_inj e)
          rw [if_pos h2]
          simp only [run_eq, tst_eq, evl_eq, itr_eq, e_add, e_sub, e_mul_l, e_mul_r, e_div, e_mod, e_adds, e_addl, e_set, e_rho_nil, e_rho, e_fint, e_fstr, e_fnone, e_fbool, e_flist, e_ftup, e_rv, e_rl, e_rd, e_putd, e_puts, e_putRd, e_putRs, e_tup, e_putn, e_putc, e_thn, e_thr, e_lt, e_le, e_gt, e_ge, e_eqi, e_nei, e_eqs, e_nes, e_is, e_isnot, e_len_l, e_len_t, e_len_s, e_tb, e_ti, e_tl, e_tn, e_inc, fix_d, fl_nil, fl_int, fl_str, fl_none, fl_bool, fl_tup, ofS_beq, String.reduceBEq, Bool.and_true, Bool.true_and, e_idx_s, e_idx_l, e_idx_t, e_sls, e_sll, hi_none, lo_none, le_line, le_lineI, rng_lo, fls_nil, fls_d, newL_d, fixT_d, S_length, Option.bind_eq_bind, Option.bind_some, Option.map_some, Option.bind_none, Option.map_none, if_true, if_false, Bool.false_eq_true, decide_eq_true_eq, List.map_cons, List.map_nil, List.length_cons, List.length_nil, and_self, and_true, true_and, true_or, or_true, not_true, not_false, List.mem_cons, List.not_mem_nil, or_false, false_or, or_self, String.reduceEq, reduceIte, ne_eq, Int.reduceLT, Int.reduceLE, Nat.reduceAdd, Nat.reduceLeDiff, Int.reducePow, Int.reduceNeg, Int.reduceBEq, Int.reduceEq, Int.reduceToNat, Int.reduceAdd, Int.reduceSub, Int.reduceMul, reduceCtorEq, Bool.not_true, Bool.not_false, Bool.not_eq_true, fact_where, fix_fact, fix_row]
          simp only [run_eq, tst_eq, evl_eq, itr_eq, e_add, e_sub, e_mul_l, e_mul_r, e_div, e_mod, e_adds, e_addl, e_set, e_rho_nil, e_rho, e_fint, e_fstr, e_fnone, e_fbool, e_flist, e_ftup, e_rv, e_rl, e_rd, e_putd, e_puts, e_putRd, e_putRs, e_tup, e_putn, e_putc, e_thn, e_thr, e_lt, e_le, e_gt, e_ge, e_eqi, e_nei, e_eqs, e_nes, e_is, e_isnot, e_len_l, e_len_t, e_len_s, e_tb, e_ti, e_tl, e_tn, e_inc, fix_d, fl_nil, fl_int, fl_str, fl_none, fl_bool, fl_tup, ofS_beq, String.reduceBEq, Bool.and_true, Bool.true_and, e_idx_s, e_idx_l, e_idx_t, e_sls, e_sll, hi_none, lo_none, le_line, le_lineI, rng_lo, fls_nil, fls_d, newL_d, fixT_d, S_length, Option.bind_eq_bind, Option.bind_some, Option.map_some, Option.bind_none, Option.map_none, if_true, if_false, Bool.false_eq_true, decide_eq_true_eq, List.map_cons, List.map_nil, List.length_cons, List.length_nil, and_self, and_true, true_and, true_or, or_true, not_true, not_false, List.mem_cons, List.not_mem_nil, or_false, false_or, or_self, String.reduceEq, reduceIte, ne_eq, Int.reduceLT, Int.reduceLE, Nat.reduceAdd, Nat.reduceLeDiff, Int.reducePow, Int.reduceNeg, Int.reduceBEq, Int.reduceEq, Int.reduceToNat, Int.reduceAdd, Int.reduceSub, Int.reduceMul, reduceCtorEq, Bool.not_true, Bool.not_false, Bool.not_eq_true, rowP, Row.parts, sq1, sq2, h2', h3', fact_where, fix_fact]
          cases v <;> kernel_rfl
        · have h2' : (S m == S o) = false := beq_eq_false_iff_ne.mpr fun e => h2 (S_inj e)
          rw [if_neg h2]
          by_cases h3 : m = n
          · have h3' : (S m == S n) = true := by rw [h3]; exact beq_self_eq_true _
            rw [if_pos h3]
            simp only [run_eq, tst_eq, evl_eq, itr_eq, e_add, e_sub, e_mul_l, e_mul_r, e_div, e_mod, e_adds, e_addl, e_set, e_rho_nil, e_rho, e_fint, e_fstr, e_fnone, e_fbool, e_flist, e_ftup, e_rv, e_rl, e_rd, e_putd, e_puts, e_putRd, e_putRs, e_tup, e_putn, e_putc, e_thn, e_thr, e_lt, e_le, e_gt, e_ge, e_eqi, e_nei, e_eqs, e_nes, e_is, e_isnot, e_len_l, e_len_t, e_len_s, e_tb, e_ti, e_tl, e_tn, e_inc, fix_d, fl_nil, fl_int, fl_str, fl_none, fl_bool, fl_tup, ofS_beq, String.reduceBEq, Bool.and_true, Bool.true_and, e_idx_s, e_idx_l, e_idx_t, e_sls, e_sll, hi_none, lo_none, le_line, le_lineI, rng_lo, fls_nil, fls_d, newL_d, fixT_d, S_length, Option.bind_eq_bind, Option.bind_some, Option.map_some, Option.bind_none, Option.map_none, if_true, if_false, Bool.false_eq_true, decide_eq_true_eq, List.map_cons, List.map_nil, List.length_cons, List.length_nil, and_self, and_true, true_and, true_or, or_true, not_true, not_false, List.mem_cons, List.not_mem_nil, or_false, false_or, or_self, String.reduceEq, reduceIte, ne_eq, Int.reduceLT, Int.reduceLE, Nat.reduceAdd, Nat.reduceLeDiff, Int.reducePow, Int.reduceNeg, Int.reduceBEq, Int.reduceEq, Int.reduceToNat, Int.reduceAdd, Int.reduceSub, Int.reduceMul, reduceCtorEq, Bool.not_true, Bool.not_false, Bool.not_eq_true, fact_where, fix_fact, fix_row]
            simp only [run_eq, tst_eq, evl_eq, itr_eq, e_add, e_sub, e_mul_l, e_mul_r, e_div, e_mod, e_adds, e_addl, e_set, e_rho_nil, e_rho, e_fint, e_fstr, e_fnone, e_fbool, e_flist, e_ftup, e_rv, e_rl, e_rd, e_putd, e_puts, e_putRd, e_putRs, e_tup, e_putn, e_putc, e_thn, e_thr, e_lt, e_le, e_gt, e_ge, e_eqi, e_nei, e_eqs, e_nes, e_is, e_isnot, e_len_l, e_len_t, e_len_s, e_tb, e_ti, e_tl, e_tn, e_inc, fix_d, fl_nil, fl_int, fl_str, fl_none, fl_bool, fl_tup, ofS_beq, String.reduceBEq, Bool.and_true, Bool.true_and, e_idx_s, e_idx_l, e_idx_t, e_sls, e_sll, hi_none, lo_none, le_line, le_lineI, rng_lo, fls_nil, fls_d, newL_d, fixT_d, S_length, Option.bind_eq_bind, Option.bind_some, Option.map_some, Option.bind_none, Option.map_none, if_true, if_false, Bool.false_eq_true, decide_eq_true_eq, List.map_cons, List.map_nil, List.length_cons, List.length_nil, and_self, and_true, true_and, true_or, or_true, not_true, not_false, List.mem_cons, List.not_mem_nil, or_false, false_or, or_self, String.reduceEq, reduceIte, ne_eq, Int.reduceLT, Int.reduceLE, Nat.reduceAdd, Nat.reduceLeDiff, Int.reducePow, Int.reduceNeg, Int.reduceBEq, Int.reduceEq, Int.reduceToNat, Int.reduceAdd, Int.reduceSub, Int.reduceMul, reduceCtorEq, Bool.not_true, Bool.not_false, Bool.not_eq_true, rowP, Row.parts, sq1, sq2, h2', h3', fact_where, fix_fact]
            cases v <;> kernel_rfl
          · have h3' : (S m == S n) = false := beq_eq_false_iff_ne.mpr fun e => h3 (S_inj e)
            rw [if_neg h3]
            simp only [run_eq, tst_eq, evl_eq, itr_eq, e_add, e_sub, e_mul_l, e_mul_r, e_div, e_mod, e_adds, e_addl, e_set, e_rho_nil, e_rho, e_fint, e_fstr, e_fnone, e_fbool, e_flist, e_ftup, e_rv, e_rl, e_rd, e_putd, e_puts, e_putRd, e_putRs, e_tup, e_putn, e_putc, e_thn, e_thr, e_lt, e_le, e_gt, e_ge, e_eqi, e_nei, e_eqs, e_nes, e_is, e_isnot, e_len_l, e_len_t, e_len_s, e_tb, e_ti, e_tl, e_tn, e_inc, fix_d, fl_nil, fl_int, fl_str, fl_none, fl_bool, fl_tup, ofS_beq, String.reduceBEq, Bool.and_true, Bool.true_and, e_idx_s, e_idx_l, e_idx_t, e_sls, e_sll, hi_none, lo_none, le_line, le_lineI, rng_lo, fls_nil, fls_d, newL_d, fixT_d, S_length, Option.bind_eq_bind, Option.bind_some, Option.map_some, Option.bind_none, Option.map_none, if_true, if_false, Bool.false_eq_true, decide_eq_true_eq, List.map_cons, List.map_nil, List.length_cons, List.length_nil, and_self, and_true, true_and, true_or, or_true, not_true, not_false, List.mem_cons, List.not_mem_nil, or_false, false_or, or_self, String.reduceEq, reduceIte, ne_eq, Int.reduceLT, Int.reduceLE, Nat.reduceAdd, Nat.reduceLeDiff, Int.reducePow, Int.reduceNeg, Int.reduceBEq, Int.reduceEq, Int.reduceToNat, Int.reduceAdd, Int.reduceSub, Int.reduceMul, reduceCtorEq, Bool.not_true, Bool.not_false, Bool.not_eq_true, fact_where, fix_fact, fix_row]
            simp only [run_eq, tst_eq, evl_eq, itr_eq, e_add, e_sub, e_mul_l, e_mul_r, e_div, e_mod, e_adds, e_addl, e_set, e_rho_nil, e_rho, e_fint, e_fstr, e_fnone, e_fbool, e_flist, e_ftup, e_rv, e_rl, e_rd, e_putd, e_puts, e_putRd, e_putRs, e_tup, e_putn, e_putc, e_thn, e_thr, e_lt, e_le, e_gt, e_ge, e_eqi, e_nei, e_eqs, e_nes, e_is, e_isnot, e_len_l, e_len_t, e_len_s, e_tb, e_ti, e_tl, e_tn, e_inc, fix_d, fl_nil, fl_int, fl_str, fl_none, fl_bool, fl_tup, ofS_beq, String.reduceBEq, Bool.and_true, Bool.true_and, e_idx_s, e_idx_l, e_idx_t, e_sls, e_sll, hi_none, lo_none, le_line, le_lineI, rng_lo, fls_nil, fls_d, newL_d, fixT_d, S_length, Option.bind_eq_bind, Option.bind_some, Option.map_some, Option.bind_none, Option.map_none, if_true, if_false, Bool.false_eq_true, decide_eq_true_eq, List.map_cons, List.map_nil, List.length_cons, List.length_nil, and_self, and_true, true_and, true_or, or_true, not_true, not_false, List.mem_cons, List.not_mem_nil, or_false, false_or, or_self, String.reduceEq, reduceIte, ne_eq, Int.reduceLT, Int.reduceLE, Nat.reduceAdd, Nat.reduceLeDiff, Int.reducePow, Int.reduceNeg, Int.reduceBEq, Int.reduceEq, Int.reduceToNat, Int.reduceAdd, Int.reduceSub, Int.reduceMul, reduceCtorEq, Bool.not_true, Bool.not_false, Bool.not_eq_true, rowP, Row.parts, sq1, sq2, h2', h3', fact_where, fix_fact]
            cases v <;> kernel_rfl
    | give p =>
      refine seq (ifR_no (by kernel_rfl) rfl) (seq (ifR_no (by kernel_rfl) rfl) ?_)
      cases v with
      | none => kernel_rfl
      | some x =>
        cases x with
        | nil => kernel_rfl
        | cons a x =>
          have ho := e_lo ps (a :: x) hlen
          rw [hc (a :: x) rfl] at ho
          have hne : (S (a :: x) == Str.ofString "") = false := by rw [S_nil, S_beq]; simp
          show _ = some (Out.ret (.list ((if p ∈ c then [Fact.name m (some [])] else [.name m (some (a :: x))]).map factP)))
          refine seq (ifR_no (Eq.trans (b := if (S (a :: x) == Str.ofString "") = true then some true else some false) (by kernel_rfl) (by rw [hne]; rfl)) rfl) ?_
          by_cases h : p ∈ c
          · rw [if_pos h]
            exact seqRet (ifR_yes (by simp only [run_eq, tst_eq, evl_eq, itr_eq, e_add, e_sub, e_mul_l, e_mul_r, e_div, e_mod, e_adds, e_addl, e_set, e_rho_nil, e_rho, e_fint, e_fstr, e_fnone, e_fbool, e_flist, e_ftup, e_rv, e_rl, e_rd, e_putd, e_puts, e_putRd, e_putRs, e_tup, e_putn, e_putc, e_thn, e_thr, e_lt, e_le, e_gt, e_ge, e_eqi, e_nei, e_eqs, e_nes, e_is, e_isnot, e_len_l, e_len_t, e_len_s, e_tb, e_ti, e_tl, e_tn, e_inc, fix_d, fl_nil, fl_int, fl_str, fl_none, fl_bool, fl_tup, ofS_beq, String.reduceBEq, Bool.and_true, Bool.true_and, e_idx_s, e_idx_l, e_idx_t, e_sls, e_sll, hi_none, lo_none, le_line, le_lineI, rng_lo, fls_nil, fls_d, newL_d, fixT_d, S_length, Option.bind_eq_bind, Option.bind_some, Option.map_some, Option.bind_none, Option.map_none, if_true, if_false, Bool.false_eq_true, decide_eq_true_eq, List.map_cons, List.map_nil, List.length_cons, List.length_nil, and_self, and_true, true_and, true_or, or_true, not_true, not_false, List.mem_cons, List.not_mem_nil, or_false, false_or, or_self, String.reduceEq, reduceIte, ne_eq, Int.reduceLT, Int.reduceLE, Nat.reduceAdd, Nat.reduceLeDiff, Int.reducePow, Int.reduceNeg, Int.reduceBEq, Int.reduceEq, Int.reduceToNat, Int.reduceAdd, Int.reduceSub, Int.reduceMul, reduceCtorEq, Bool.not_true, Bool.not_false, Bool.not_eq_true, fix_row, rowP, Row.parts, optP, sq1, ho, e_in_strs, decide_eq_true h]) (seqRet (by kernel_rfl)))
          · rw [if_neg h]
            exact seq (ifR_no (by simp only [run_eq, tst_eq, evl_eq, itr_eq, e_add, e_sub, e_mul_l, e_mul_r, e_div, e_mod, e_adds, e_addl, e_set, e_rho_nil, e_rho, e_fint, e_fstr, e_fnone, e_fbool, e_flist, e_ftup, e_rv, e_rl, e_rd, e_putd, e_puts, e_putRd, e_putRs, e_tup, e_putn, e_putc, e_thn, e_thr, e_lt, e_le, e_gt, e_ge, e_eqi, e_nei, e_eqs, e_nes, e_is, e_isnot, e_len_l, e_len_t, e_len_s, e_tb, e_ti, e_tl, e_tn, e_inc, fix_d, fl_nil, fl_int, fl_str, fl_none, fl_bool, fl_tup, ofS_beq, String.reduceBEq, Bool.and_true, Bool.true_and, e_idx_s, e_idx_l, e_idx_t, e_sls, e_sll, hi_none, lo_none, le_line, le_lineI, rng_lo, fls_nil, fls_d, newL_d, fixT_d, S_length, Option.bind_eq_bind, Option.bind_some, Option.map_some, Option.bind_none, Option.map_none, if_true, if_false, Bool.false_eq_true, decide_eq_true_eq, List.map_cons, List.map_nil, List.length_cons, List.length_nil, and_self, and_true, true_and, true_or, or_true, not_true, not_false, List.mem_cons, List.not_mem_nil, or_false, false_or, or_self, String.reduceEq, reduceIte, ne_eq, Int.reduceLT, Int.reduceLE, Nat.reduceAdd, Nat.reduceLeDiff, Int.reducePow, Int.reduceNeg, Int.reduceBEq, Int.reduceEq, Int.reduceToNat, Int.reduceAdd, Int.reduceSub, Int.reduceMul, reduceCtorEq, Bool.not_true, Bool.not_false, Bool.not_eq_true, fix_row, rowP, Row.parts, optP, sq1, ho, e_in_strs, decide_eq_false h]) rfl) (by kernel_rfl)
    | _ =>
      refine seq (ifR_no (by kernel_rfl) rfl) (seq (ifR_no (by kernel_rfl) rfl) (seqRet (ifR_yes (by kernel_rfl) (seqRet ?_))))
      exact ret_fact (fix_fact (.name m v) .s) (by kernel_rfl)
end Mine

/-! text F08_kind -/
set_option autoImplicit false
set_option maxRecDepth 100000
set_option maxHeartbeats 4000000
set_option linter.unusedSimpArgs false
set_option linter.unusedVariables false

namespace Mine
open PySem PySem.Calls
variable {w : World} {hb : Heap}
theorem kind_ok (B : Bui hb) (D : DefAt hb "_law_kind" (fnS pw 16) ["_law_fact_here"] (fnB pw 16)) : ∃ m, DefG pw w hb 2 "_law_kind" m ∧ ∀ f : Fact, m [factP f] = some (.bool true) := by
  refine ⟨_, DefG.of D (n := 1) (St.cons (S1.if (Tr.all (Trs.consOr (Tr.not (Tr.val (Ev.isinst tyOk_tuple (by decide +kernel) B.isinstance (by decide +kernel) B.tuple Ev.v))) (Trs.consOr (Tr.cmp (Ev.len B (Evs.cons Ev.v Evs.nil)) Ev.cint) Trs.nilOr))) (St.cons (S1.ret Ev.cbool)
      St.nil) St.nil)
    (St.cons (S1.ret (Ev.cmp (Ev.isinst tyOk_bool (by decide +kernel) B.isinstance (by decide +kernel) B.bool (Ev.idx Ev.v Ev.cint)) (Ev.cmp (Ev.idx Ev.v Ev.cint) Ev.s)))
    St.nil)) _ (fun _ _ h => h), ?_⟩
  intro f
  refine fn_ret rfl ?_
  cases f with
  | plot p b =>
    refine seq (ifR_no (by simp only [run_eq, tst_eq, evl_eq, itr_eq, e_add, e_sub, e_mul_l, e_mul_r, e_div, e_mod, e_adds, e_addl, e_set, e_rho_nil, e_rho, e_fint, e_fstr, e_fnone, e_fbool, e_flist, e_ftup, e_rv, e_rl, e_rd, e_putd, e_puts, e_putRd, e_putRs, e_tup, e_putn, e_putc, e_thn, e_thr, e_lt, e_le, e_gt, e_ge, e_eqi, e_nei, e_eqs, e_nes, e_is, e_isnot, e_len_l, e_len_t, e_len_s, e_tb, e_ti, e_tl, e_tn, e_inc, fix_d, fl_nil, fl_int, fl_str, fl_none, fl_bool, fl_tup, ofS_beq, String.reduceBEq, Bool.and_true, Bool.true_and, e_idx_s, e_idx_l, e_idx_t, e_sls, e_sll, hi_none, lo_none, le_line, le_lineI, rng_lo, fls_nil, fls_d, newL_d, fixT_d, S_length, Option.bind_eq_bind, Option.bind_some, Option.map_some, Option.bind_none, Option.map_none, if_true, if_false, Bool.false_eq_true, decide_eq_true_eq, List.map_cons, List.map_nil, List.length_cons, List.length_nil, and_self, and_true, true_and, true_or, or_true, not_true, not_false, List.mem_cons, List.not_mem_nil, or_false, false_or, or_self, String.reduceEq, reduceIte, ne_eq, Int.reduceLT, Int.reduceLE, Nat.reduceAdd, Nat.reduceLeDiff, Int.reducePow, Int.reduceNeg, Int.reduceBEq, Int.reduceEq, Int.reduceToNat, Int.reduceAdd, Int.reduceSub, Int.reduceMul, reduceCtorEq, Bool.not_true, Bool.not_false, Bool.not_eq_true, factP, isT, tyName, Int.reduceAdd, Int.cast_ofNat_Int]; rfl) rfl) (seqRet ?_)
    simp only [run_eq, tst_eq, evl_eq, itr_eq, e_add, e_sub, e_mul_l, e_mul_r, e_div, e_mod, e_adds, e_addl, e_set, e_rho_nil, e_rho, e_fint, e_fstr, e_fnone, e_fbool, e_flist, e_ftup, e_rv, e_rl, e_rd, e_putd, e_puts, e_putRd, e_putRs, e_tup, e_putn, e_putc, e_thn, e_thr, e_lt, e_le, e_gt, e_ge, e_eqi, e_nei, e_eqs, e_nes, e_is, e_isnot, e_len_l, e_len_t, e_len_s, e_tb, e_ti, e_tl, e_tn, e_inc, fix_d, fl_nil, fl_int, fl_str, fl_none, fl_bool, fl_tup, ofS_beq, String.reduceBEq, Bool.and_true, Bool.true_and, e_idx_s, e_idx_l, e_idx_t, e_sls, e_sll, hi_none, lo_none, le_line, le_lineI, rng_lo, fls_nil, fls_d, newL_d, fixT_d, S_length, Option.bind_eq_bind, Option.bind_some, Option.map_some, Option.bind_none, Option.map_none, if_true, if_false, Bool.false_eq_true, decide_eq_true_eq, List.map_cons, List.map_nil, List.length_cons, List.length_nil, and_self, and_true, true_and, true_or, or_true, not_true, not_false, List.mem_cons, List.not_mem_nil, or_false, false_or, or_self, String.reduceEq, reduceIte, ne_eq, Int.reduceLT, Int.reduceLE, Nat.reduceAdd, Nat.reduceLeDiff, Int.reducePow, Int.reduceNeg, Int.reduceBEq, Int.reduceEq, Int.reduceToNat, Int.reduceAdd, Int.reduceSub, Int.reduceMul, reduceCtorEq, Bool.not_true, Bool.not_false, Bool.not_eq_true, factP, isT, tyName, sq0, sq2, e_eqb]; rfl
  | name n o =>
    refine seq (ifR_no (by simp only [run_eq, tst_eq, evl_eq, itr_eq, e_add, e_sub, e_mul_l, e_mul_r, e_div, e_mod, e_adds, e_addl, e_set, e_rho_nil, e_rho, e_fint, e_fstr, e_fnone, e_fbool, e_flist, e_ftup, e_rv, e_rl, e_rd, e_putd, e_puts, e_putRd, e_putRs, e_tup, e_putn, e_putc, e_thn, e_thr, e_lt, e_le, e_gt, e_ge, e_eqi, e_nei, e_eqs, e_nes, e_is, e_isnot, e_len_l, e_len_t, e_len_s, e_tb, e_ti, e_tl, e_tn, e_inc, fix_d, fl_nil, fl_int, fl_str, fl_none, fl_bool, fl_tup, ofS_beq, String.reduceBEq, Bool.and_true, Bool.true_and, e_idx_s, e_idx_l, e_idx_t, e_sls, e_sll, hi_none, lo_none, le_line, le_lineI, rng_lo, fls_nil, fls_d, newL_d, fixT_d, S_length, Option.bind_eq_bind, Option.bind_some, Option.map_some, Option.bind_none, Option.map_none, if_true, if_false, Bool.false_eq_true, decide_eq_true_eq, List.map_cons, List.map_nil, List.length_cons, List.length_nil, and_self, and_true, true_and, true_or, or_true, not_true, not_false, List.mem_cons, List.not_mem_nil, or_false, false_or, or_self, String.reduceEq, reduceIte, ne_eq, Int.reduceLT, Int.reduceLE, Nat.reduceAdd, Nat.reduceLeDiff, Int.reducePow, Int.reduceNeg, Int.reduceBEq, Int.reduceEq, Int.reduceToNat, Int.reduceAdd, Int.reduceSub, Int.reduceMul, reduceCtorEq, Bool.not_true, Bool.not_false, Bool.not_eq_true, factP, fl_opt, isT, tyName]; rfl) rfl) (seqRet ?_)
    cases o <;> (simp only [run_eq, tst_eq, evl_eq, itr_eq, e_add, e_sub, e_mul_l, e_mul_r, e_div, e_mod, e_adds, e_addl, e_set, e_rho_nil, e_rho, e_fint, e_fstr, e_fnone, e_fbool, e_flist, e_ftup, e_rv, e_rl, e_rd, e_putd, e_puts, e_putRd, e_putRs, e_tup, e_putn, e_putc, e_thn, e_thr, e_lt, e_le, e_gt, e_ge, e_eqi, e_nei, e_eqs, e_nes, e_is, e_isnot, e_len_l, e_len_t, e_len_s, e_tb, e_ti, e_tl, e_tn, e_inc, fix_d, fl_nil, fl_int, fl_str, fl_none, fl_bool, fl_tup, ofS_beq, String.reduceBEq, Bool.and_true, Bool.true_and, e_idx_s, e_idx_l, e_idx_t, e_sls, e_sll, hi_none, lo_none, le_line, le_lineI, rng_lo, fls_nil, fls_d, newL_d, fixT_d, S_length, Option.bind_eq_bind, Option.bind_some, Option.map_some, Option.bind_none, Option.map_none, if_true, if_false, Bool.false_eq_true, decide_eq_true_eq, List.map_cons, List.map_nil, List.length_cons, List.length_nil, and_self, and_true, true_and, true_or, or_true, not_true, not_false, List.mem_cons, List.not_mem_nil, or_false, false_or, or_self, String.reduceEq, reduceIte, ne_eq, Int.reduceLT, Int.reduceLE, Nat.reduceAdd, Nat.reduceLeDiff, Int.reducePow, Int.reduceNeg, Int.reduceBEq, Int.reduceEq, Int.reduceToNat, Int.reduceAdd, Int.reduceSub, Int.reduceMul, reduceCtorEq, Bool.not_true, Bool.not_false, Bool.not_eq_true, factP, optP, isT, tyName, sq0, sq2, e_eqb]; rfl)
end Mine

/-! text F08_law08 -/
set_option autoImplicit false
set_option maxRecDepth 100000
set_option maxHeartbeats 4000000
set_option linter.unusedSimpArgs false
set_option linter.unusedVariables false

namespace Mine
open PySem PySem.Calls
variable {w : World} {hb : Heap}
theorem fm_none {α β : Type} : ∀ xs : List α, xs.filterMap (fun _ => (none : Option β)) = []
  | [] => rfl
  | _ :: xs => by rw [List.filterMap_cons]; exact fm_none xs
theorem plotOf_fact {c : Int} {ps : Plots} {ns : List (List Nat)} {q : List Nat} (hp : 0 < ps.length) (h : plotOf (factS c ps ns) = some q) : q ∈ ps.map (·.1) := by
  unfold factS at h
  split at h
  · cases h; exact pickP_in hp _
  · generalize (c / 3 % 4).toNat = k at h
    have hx : ∀ x n, plotOf (.name n (some x)) = some q → x = q := by
      intro x n h
      cases x with
      | nil => cases h
      | cons a x => cases h; rfl
    match k with
    | 0 => cases h
    | 1 => cases h
    | k + 2 =>
      rw [← hx _ _ h]; exact pickP_in hp _
theorem law_ok (B : Bui hb) (D : DefAt hb "law" (fnS pw 18) ["_law_script"] (fnB pw 18)) {m_at m_plots m_names m_row m_fact m_k m_b m_lb m_lw : List PyData → Option PyData} (h_law_at : DefG pw w hb 2 "_law_at" m_at)
    (e_at : ∀ (l : List Int) (k : Int), 0 ≤ k → m_at [.list (intsP l), .int k] = some (.int (sAt l k))) (h_law_plots : DefG pw w hb 3 "_law_plots" m_plots) (e_plots : ∀ l : List Int, m_plots [.list (intsP l)] = some (.list ((plotsS l).map plotP)))
    (h_law_names : DefG pw w hb 3 "_law_names" m_names) (e_names : ∀ (l : List Int) (ps : List (List Nat × Option (List Nat))), m_names [.list (intsP l), .list (ps.map plotP)] = some (.list ((namesS l ps).map strP)))
    (h_law_row : DefG pw w hb 2 "_law_row" m_row) (e_row : ∀ (c : Int) (ps : List (List Nat × Option (List Nat))) (ns : List (List Nat)) (size : Int), 0 < ps.length → 0 < ns.length → 0 ≤ size →
      m_row [.int c, .list (ps.map plotP), .list (ns.map strP), .int size] = some (rowP (rowS c ps ns size)))
    (h_law_fact : DefG pw w hb 2 "_law_fact" m_fact) (e_fact : ∀ (c : Int) (ps : Plots) (ns : List (List Nat)), 0 < ps.length → 0 < ns.length → m_fact [.int c, .list (ps.map plotP), .list (ns.map strP)] = some (factP (factS c ps ns)))
    (h_law_kind : DefG pw w hb 2 "_law_kind" m_k) (e_kind : ∀ f : Fact, m_k [factP f] = some (.bool true))
    (h_behind : DefG pw w hb 4 "behind" m_b) (e_b : ∀ (ps : Plots) (r : Row) (f : Fact) (c : List (List Nat)), (ps.map (·.1)).Nodup → ps.length ≤ 900 → (∀ q, plotOf f = some q → Chain ps c ∧ c[0]? = some q ∧ c.length ≤ 90) → m_b [.list (ps.map plotP), rowP r, factP f] = some (.list ((behindS c r f).map factP)))
    (h_law_behind : DefG pw w hb 3 "_law_behind" m_lb) (e_lb : ∀ (ps : Plots) (r : Row) (f : Fact) (c : List (List Nat)), ps.length ≤ 900 → wrongS ps r f = "" → (∀ q, plotOf f = some q → scan ps.reverse (some q) = c) → m_lb [.list (ps.map plotP), rowP r, factP f] = some (.list ((behindS c r f).map factP)))
    (h_law_wrong_by : DefG pw w hb 2 "_law_wrong_by" m_lw) (e_lw : ∀ (ps : Plots) (r : Row) (f : Fact), (ps.map (·.1)).Nodup → (∀ p, r = .op p → ∃ o, ps.lookup p = some o) → m_lw [.list (ps.map plotP), rowP r, factP f] = some (strT (wrongS ps r f))) :
    ∃ m, DefG pw w hb 5 "law" m ∧ ∀ l : List Int, m [.list (intsP l)] = some (.bool true) := by
  refine ⟨_, DefG.of D (n := 4) (St.cons (S1.assign (Ev.def h_law_plots (Evs.cons Ev.v Evs.nil)) (by decide +kernel))
    (St.cons (S1.assign (Ev.def h_law_names (Evs.cons Ev.v (Evs.cons Ev.v Evs.nil))) (by decide +kernel))
    (St.cons (S1.assign (Ev.listOf B (Evs.cons Ev.v Evs.nil)) (by decide +kernel))
    (St.cons (S1.for (It.data (Ev.slice Ev.v (Pt.yes Ev.cint) Pt.no Pt.no)) (Tg.name (by decide +kernel)) (St.cons (S1.assign (Ev.def h_law_row (Evs.cons Ev.v (Evs.cons Ev.v (Evs.cons Ev.v (Evs.cons Ev.cint Evs.nil))))) (by decide +kernel))
      (St.cons (S1.assign (Ev.bin (Ev.bin Ev.v Ev.cint) (Ev.def h_law_at (Evs.cons Ev.v (Evs.cons Ev.cint Evs.nil)))) (by decide +kernel))
      (St.cons (S1.assign (Ev.def h_law_fact (Evs.cons Ev.v (Evs.cons Ev.v (Evs.cons Ev.v Evs.nil)))) (by decide +kernel))
      (St.cons (S1.if (Tr.cmp (Ev.def h_law_wrong_by (Evs.cons Ev.v (Evs.cons Ev.v (Evs.cons Ev.v Evs.nil)))) Ev.s) (St.cons (S1.assign (Ev.def h_behind (Evs.cons Ev.v (Evs.cons Ev.v (Evs.cons Ev.v Evs.nil)))) (by decide +kernel))
        (St.cons (S1.if (Tr.all (Trs.consOr (Tr.not (Tr.val (Ev.isinst tyOk_list (by decide +kernel) B.isinstance (by decide +kernel) B.list Ev.v))) (Trs.consOr (Tr.cmp Ev.v (Ev.def h_law_behind (Evs.cons Ev.v (Evs.cons Ev.v (Evs.cons Ev.v Evs.nil))))) Trs.nilOr))) (St.cons (S1.ret Ev.cbool)
          St.nil) St.nil)
        (St.cons (S1.if (Tr.cmp (Ev.comp (locs := [".0", "_law_one"]) (by decide +kernel) (It.data Ev.v) (TgL.name (by decide +kernel) (by decide +kernel)) (Ifs.one (Tr.not (Tr.val (Ev.def h_law_kind (Evs.cons Ev.v Evs.nil))))) Ev.v) (Ev.list Evs.nil)) (St.cons (S1.ret Ev.cbool)
          St.nil) St.nil)
        St.nil))) St.nil)
      St.nil)))))
    (St.cons (S1.ret (Ev.cmp Ev.v Ev.v))
    St.nil))))) _ (fun _ _ h => h), ?_⟩
  intro l
  have a4 := e_at l 4 (by decide)
  have hpl := e_plots l
  have hnm := e_names l (plotsS l)
  have hlen := plots_len l
  have hmany := many_le l
  have hnpos := names_pos l
  have hpp : 0 < (plotsS l).length := by omega
  refine fn_ret rfl ?_
  refine seq (by simp only [run_eq, tst_eq, evl_eq, itr_eq, e_add, e_sub, e_mul_l, e_mul_r, e_div, e_mod, e_adds, e_addl, e_set, e_rho_nil, e_rho, e_fint, e_fstr, e_fnone, e_fbool, e_flist, e_ftup, e_rv, e_rl, e_rd, e_putd, e_puts, e_putRd, e_putRs, e_tup, e_putn, e_putc, e_thn, e_thr, e_lt, e_le, e_gt, e_ge, e_eqi, e_nei, e_eqs, e_nes, e_is, e_isnot, e_len_l, e_len_t, e_len_s, e_tb, e_ti, e_tl, e_tn, e_inc, fix_d, fl_nil, fl_int, fl_str, fl_none, fl_bool, fl_tup, ofS_beq, String.reduceBEq, Bool.and_true, Bool.true_and, e_idx_s, e_idx_l, e_idx_t, e_sls, e_sll, hi_none, lo_none, le_line, le_lineI, rng_lo, fls_nil, fls_d, newL_d, fixT_d, S_length, Option.bind_eq_bind, Option.bind_some, Option.map_some, Option.bind_none, Option.map_none, if_true, if_false, Bool.false_eq_true, decide_eq_true_eq, List.map_cons, List.map_nil, List.length_cons, List.length_nil, and_self, and_true, true_and, true_or, or_true, not_true, not_false, List.mem_cons, List.not_mem_nil, or_false, false_or, or_self, String.reduceEq, reduceIte, ne_eq, Int.reduceLT, Int.reduceLE, Nat.reduceAdd, Nat.reduceLeDiff, Int.reducePow, Int.reduceNeg, Int.reduceBEq, Int.reduceEq, Int.reduceToNat, Int.reduceAdd, Int.reduceSub, Int.reduceMul, reduceCtorEq, Bool.not_true, Bool.not_false, Bool.not_eq_true, hpl]; rfl) ?_
  refine seq (by simp only [run_eq, tst_eq, evl_eq, itr_eq, e_add, e_sub, e_mul_l, e_mul_r, e_div, e_mod, e_adds, e_addl, e_set, e_rho_nil, e_rho, e_fint, e_fstr, e_fnone, e_fbool, e_flist, e_ftup, e_rv, e_rl, e_rd, e_putd, e_puts, e_putRd, e_putRs, e_tup, e_putn, e_putc, e_thn, e_thr, e_lt, e_le, e_gt, e_ge, e_eqi, e_nei, e_eqs, e_nes, e_is, e_isnot, e_len_l, e_len_t, e_len_s, e_tb, e_ti, e_tl, e_tn, e_inc, fix_d, fl_nil, fl_int, fl_str, fl_none, fl_bool, fl_tup, ofS_beq, String.reduceBEq, Bool.and_true, Bool.true_and, e_idx_s, e_idx_l, e_idx_t, e_sls, e_sll, hi_none, lo_none, le_line, le_lineI, rng_lo, fls_nil, fls_d, newL_d, fixT_d, S_length, Option.bind_eq_bind, Option.bind_some, Option.map_some, Option.bind_none, Option.map_none, if_true, if_false, Bool.false_eq_true, decide_eq_true_eq, List.map_cons, List.map_nil, List.length_cons, List.length_nil, and_self, and_true, true_and, true_or, or_true, not_true, not_false, List.mem_cons, List.not_mem_nil, or_false, false_or, or_self, String.reduceEq, reduceIte, ne_eq, Int.reduceLT, Int.reduceLE, Nat.reduceAdd, Nat.reduceLeDiff, Int.reducePow, Int.reduceNeg, Int.reduceBEq, Int.reduceEq, Int.reduceToNat, Int.reduceAdd, Int.reduceSub, Int.reduceMul, reduceCtorEq, Bool.not_true, Bool.not_false, Bool.not_eq_true, hnm]; rfl) ?_
  refine seq (by simp only [run_eq, tst_eq, evl_eq, itr_eq, e_add, e_sub, e_mul_l, e_mul_r, e_div, e_mod, e_adds, e_addl, e_set, e_rho_nil, e_rho, e_fint, e_fstr, e_fnone, e_fbool, e_flist, e_ftup, e_rv, e_rl, e_rd, e_putd, e_puts, e_putRd, e_putRs, e_tup, e_putn, e_putc, e_thn, e_thr, e_lt, e_le, e_gt, e_ge, e_eqi, e_nei, e_eqs, e_nes, e_is, e_isnot, e_len_l, e_len_t, e_len_s, e_tb, e_ti, e_tl, e_tn, e_inc, fix_d, fl_nil, fl_int, fl_str, fl_none, fl_bool, fl_tup, ofS_beq, String.reduceBEq, Bool.and_true, Bool.true_and, e_idx_s, e_idx_l, e_idx_t, e_sls, e_sll, hi_none, lo_none, le_line, le_lineI, rng_lo, fls_nil, fls_d, newL_d, fixT_d, S_length, Option.bind_eq_bind, Option.bind_some, Option.map_some, Option.bind_none, Option.map_none, if_true, if_false, Bool.false_eq_true, decide_eq_true_eq, List.map_cons, List.map_nil, List.length_cons, List.length_nil, and_self, and_true, true_and, true_or, or_true, not_true, not_false, List.mem_cons, List.not_mem_nil, or_false, false_or, or_self, String.reduceEq, reduceIte, ne_eq, Int.reduceLT, Int.reduceLE, Nat.reduceAdd, Nat.reduceLeDiff, Int.reducePow, Int.reduceNeg, Int.reduceBEq, Int.reduceEq, Int.reduceToNat, Int.reduceAdd, Int.reduceSub, Int.reduceMul, reduceCtorEq, Bool.not_true, Bool.not_false, Bool.not_eq_true]; rfl) ?_
  refine seqE (fun ρ => ρ "_law_plots_here" = some (.val ⟨.list ((plotsS l).map plotP), .d⟩) ∧ ρ "_law_handed" = some (.val ⟨.list ((plotsS l).map plotP), .d⟩)) ?_ ?_
  · refine for_run (intsP ((l.take (clipHi none l.length)).drop (clipLo (some 6) l.length))) .d (by simp only [run_eq, tst_eq, evl_eq, itr_eq, e_add, e_sub, e_mul_l, e_mul_r, e_div, e_mod, e_adds, e_addl, e_set, e_rho_nil, e_rho, e_fint, e_fstr, e_fnone, e_fbool, e_flist, e_ftup, e_rv, e_rl, e_rd, e_putd, e_puts, e_putRd, e_putRs, e_tup, e_putn, e_putc, e_thn, e_thr, e_lt, e_le, e_gt, e_ge, e_eqi, e_nei, e_eqs, e_nes, e_is, e_isnot, e_len_l, e_len_t, e_len_s, e_tb, e_ti, e_tl, e_tn, e_inc, fix_d, fl_nil, fl_int, fl_str, fl_none, fl_bool, fl_tup, ofS_beq, String.reduceBEq, Bool.and_true, Bool.true_and, e_idx_s, e_idx_l, e_idx_t, e_sls, e_sll, hi_none, lo_none, le_line, le_lineI, rng_lo, fls_nil, fls_d, newL_d, fixT_d, S_length, Option.bind_eq_bind, Option.bind_some, Option.map_some, Option.bind_none, Option.map_none, if_true, if_false, Bool.false_eq_true, decide_eq_true_eq, List.map_cons, List.map_nil, List.length_cons, List.length_nil, and_self, and_true, true_and, true_or, or_true, not_true, not_false, List.mem_cons, List.not_mem_nil, or_false, false_or, or_self, String.reduceEq, reduceIte, ne_eq, Int.reduceLT, Int.reduceLE, Nat.reduceAdd, Nat.reduceLeDiff, Int.reducePow, Int.reduceNeg, Int.reduceBEq, Int.reduceEq, Int.reduceToNat, Int.reduceAdd, Int.reduceSub, Int.reduceMul, reduceCtorEq, Bool.not_true, Bool.not_false, Bool.not_eq_true, itemsOf, ints_length, ints_take, newL_ints]) (by decide) ?_
    refine (forD_inv' (fun i ρ => ρ "_law_script" = some (.val ⟨.list (intsP l), .s⟩) ∧ ρ "_law_plots_here" = some (.val ⟨.list ((plotsS l).map plotP), .d⟩) ∧ ρ "_law_names_here" = some (.val ⟨.list ((namesS l (plotsS l)).map strP), .d⟩) ∧ ρ "_law_handed" = some (.val ⟨.list ((plotsS l).map plotP), .d⟩)) ?_ ?_).imp fun ρ' h => ⟨h.1, h.2.2.1, h.2.2.2.2⟩
    · exact ⟨by simp only [run_eq, tst_eq, evl_eq, itr_eq, e_add, e_sub, e_mul_l, e_mul_r, e_div, e_mod, e_adds, e_addl, e_set, e_rho_nil, e_rho, e_fint, e_fstr, e_fnone, e_fbool, e_flist, e_ftup, e_rv, e_rl, e_rd, e_putd, e_puts, e_putRd, e_putRs, e_tup, e_putn, e_putc, e_thn, e_thr, e_lt, e_le, e_gt, e_ge, e_eqi, e_nei, e_eqs, e_nes, e_is, e_isnot, e_len_l, e_len_t, e_len_s, e_tb, e_ti, e_tl, e_tn, e_inc, fix_d, fl_nil, fl_int, fl_str, fl_none, fl_bool, fl_tup, ofS_beq, String.reduceBEq, Bool.and_true, Bool.true_and, e_idx_s, e_idx_l, e_idx_t, e_sls, e_sll, hi_none, lo_none, le_line, le_lineI, rng_lo, fls_nil, fls_d, newL_d, fixT_d, S_length, Option.bind_eq_bind, Option.bind_some, Option.map_some, Option.bind_none, Option.map_none, if_true, if_false, Bool.false_eq_true, decide_eq_true_eq, List.map_cons, List.map_nil, List.length_cons, List.length_nil, and_self, and_true, true_and, true_or, or_true, not_true, not_false, List.mem_cons, List.not_mem_nil, or_false, false_or, or_self, String.reduceEq, reduceIte, ne_eq, Int.reduceLT, Int.reduceLE, Nat.reduceAdd, Nat.reduceLeDiff, Int.reducePow, Int.reduceNeg, Int.reduceBEq, Int.reduceEq, Int.reduceToNat, Int.reduceAdd, Int.reduceSub, Int.reduceMul, reduceCtorEq, Bool.not_true, Bool.not_false, Bool.not_eq_true], by simp only [run_eq, tst_eq, evl_eq, itr_eq, e_add, e_sub, e_mul_l, e_mul_r, e_div, e_mod, e_adds, e_addl, e_set, e_rho_nil, e_rho, e_fint, e_fstr, e_fnone, e_fbool, e_flist, e_ftup, e_rv, e_rl, e_rd, e_putd, e_puts, e_putRd, e_putRs, e_tup, e_putn, e_putc, e_thn, e_thr, e_lt, e_le, e_gt, e_ge, e_eqi, e_nei, e_eqs, e_nes, e_is, e_isnot, e_len_l, e_len_t, e_len_s, e_tb, e_ti, e_tl, e_tn, e_inc, fix_d, fl_nil, fl_int, fl_str, fl_none, fl_bool, fl_tup, ofS_beq, String.reduceBEq, Bool.and_true, Bool.true_and, e_idx_s, e_idx_l, e_idx_t, e_sls, e_sll, hi_none, lo_none, le_line, le_lineI, rng_lo, fls_nil, fls_d, newL_d, fixT_d, S_length, Option.bind_eq_bind, Option.bind_some, Option.map_some, Option.bind_none, Option.map_none, if_true, if_false, Bool.false_eq_true, decide_eq_true_eq, List.map_cons, List.map_nil, List.length_cons, List.length_nil, and_self, and_true, true_and, true_or, or_true, not_true, not_false, List.mem_cons, List.not_mem_nil, or_false, false_or, or_self, String.reduceEq, reduceIte, ne_eq, Int.reduceLT, Int.reduceLE, Nat.reduceAdd, Nat.reduceLeDiff, Int.reducePow, Int.reduceNeg, Int.reduceBEq, Int.reduceEq, Int.reduceToNat, Int.reduceAdd, Int.reduceSub, Int.reduceMul, reduceCtorEq, Bool.not_true, Bool.not_false, Bool.not_eq_true], by simp only [run_eq, tst_eq, evl_eq, itr_eq, e_add, e_sub, e_mul_l, e_mul_r, e_div, e_mod, e_adds, e_addl, e_set, e_rho_nil, e_rho, e_fint, e_fstr, e_fnone, e_fbool, e_flist, e_ftup, e_rv, e_rl, e_rd, e_putd, e_puts, e_putRd, e_putRs, e_tup, e_putn, e_putc, e_thn, e_thr, e_lt, e_le, e_gt, e_ge, e_eqi, e_nei, e_eqs, e_nes, e_is, e_isnot, e_len_l, e_len_t, e_len_s, e_tb, e_ti, e_tl, e_tn, e_inc, fix_d, fl_nil, fl_int, fl_str, fl_none, fl_bool, fl_tup, ofS_beq, String.reduceBEq, Bool.and_true, Bool.true_and, e_idx_s, e_idx_l, e_idx_t, e_sls, e_sll, hi_none, lo_none, le_line, le_lineI, rng_lo, fls_nil, fls_d, newL_d, fixT_d, S_length, Option.bind_eq_bind, Option.bind_some, Option.map_some, Option.bind_none, Option.map_none, if_true, if_false, Bool.false_eq_true, decide_eq_true_eq, List.map_cons, List.map_nil, List.length_cons, List.length_nil, and_self, and_true, true_and, true_or, or_true, not_true, not_false, List.mem_cons, List.not_mem_nil, or_false, false_or, or_self, String.reduceEq, reduceIte, ne_eq, Int.reduceLT, Int.reduceLE, Nat.reduceAdd, Nat.reduceLeDiff, Int.reducePow, Int.reduceNeg, Int.reduceBEq, Int.reduceEq, Int.reduceToNat, Int.reduceAdd, Int.reduceSub, Int.reduceMul, reduceCtorEq, Bool.not_true, Bool.not_false, Bool.not_eq_true], by simp only [run_eq, tst_eq, evl_eq, itr_eq, e_add, e_sub, e_mul_l, e_mul_r, e_div, e_mod, e_adds, e_addl, e_set, e_rho_nil, e_rho, e_fint, e_fstr, e_fnone, e_fbool, e_flist, e_ftup, e_rv, e_rl, e_rd, e_putd, e_puts, e_putRd, e_putRs, e_tup, e_putn, e_putc, e_thn, e_thr, e_lt, e_le, e_gt, e_ge, e_eqi, e_nei, e_eqs, e_nes, e_is, e_isnot, e_len_l, e_len_t, e_len_s, e_tb, e_ti, e_tl, e_tn, e_inc, fix_d, fl_nil, fl_int, fl_str, fl_none, fl_bool, fl_tup, ofS_beq, String.reduceBEq, Bool.and_true, Bool.true_and, e_idx_s, e_idx_l, e_idx_t, e_sls, e_sll, hi_none, lo_none, le_line, le_lineI, rng_lo, fls_nil, fls_d, newL_d, fixT_d, S_length, Option.bind_eq_bind, Option.bind_some, Option.map_some, Option.bind_none, Option.map_none, if_true, if_false, Bool.false_eq_true, decide_eq_true_eq, List.map_cons, List.map_nil, List.length_cons, List.length_nil, and_self, and_true, true_and, true_or, or_true, not_true, not_false, List.mem_cons, List.not_mem_nil, or_false, false_or, or_self, String.reduceEq, reduceIte, ne_eq, Int.reduceLT, Int.reduceLE, Nat.reduceAdd, Nat.reduceLeDiff, Int.reducePow, Int.reduceNeg, Int.reduceBEq, Int.reduceEq, Int.reduceToNat, Int.reduceAdd, Int.reduceSub, Int.reduceMul, reduceCtorEq, Bool.not_true, Bool.not_false, Bool.not_eq_true]⟩
    · rintro i x ρ hx ⟨f1, f2, f3, f4⟩
      obtain ⟨c, _, rfl⟩ := List.mem_map.mp (List.mem_of_getElem? hx)
      clear hx
      refine ⟨_, by simp only [run_eq, tst_eq, evl_eq, itr_eq, e_add, e_sub, e_mul_l, e_mul_r, e_div, e_mod, e_adds, e_addl, e_set, e_rho_nil, e_rho, e_fint, e_fstr, e_fnone, e_fbool, e_flist, e_ftup, e_rv, e_rl, e_rd, e_putd, e_puts, e_putRd, e_putRs, e_tup, e_putn, e_putc, e_thn, e_thr, e_lt, e_le, e_gt, e_ge, e_eqi, e_nei, e_eqs, e_nes, e_is, e_isnot, e_len_l, e_len_t, e_len_s, e_tb, e_ti, e_tl, e_tn, e_inc, fix_d, fl_nil, fl_int, fl_str, fl_none, fl_bool, fl_tup, ofS_beq, String.reduceBEq, Bool.and_true, Bool.true_and, e_idx_s, e_idx_l, e_idx_t, e_sls, e_sll, hi_none, lo_none, le_line, le_lineI, rng_lo, fls_nil, fls_d, newL_d, fixT_d, S_length, Option.bind_eq_bind, Option.bind_some, Option.map_some, Option.bind_none, Option.map_none, if_true, if_false, Bool.false_eq_true, decide_eq_true_eq, List.map_cons, List.map_nil, List.length_cons, List.length_nil, and_self, and_true, true_and, true_or, or_true, not_true, not_false, List.mem_cons, List.not_mem_nil, or_false, false_or, or_self, String.reduceEq, reduceIte, ne_eq, Int.reduceLT, Int.reduceLE, Nat.reduceAdd, Nat.reduceLeDiff, Int.reducePow, Int.reduceNeg, Int.reduceBEq, Int.reduceEq, Int.reduceToNat, Int.reduceAdd, Int.reduceSub, Int.reduceMul, reduceCtorEq, Bool.not_true, Bool.not_false, Bool.not_eq_true]; rfl, ?_⟩
      have hr := e_row c (plotsS l) (namesS l (plotsS l)) 9 hpp hnpos (by decide)
      have hop : ∀ p, rowS c (plotsS l) (namesS l (plotsS l)) 9 = .op p → p ∈ (plotsS l).map (·.1) := fun p hp => row_op hpp hp
      generalize rowS c (plotsS l) (namesS l (plotsS l)) 9 = r at hr hop
      refine seqN (by simp only [run_eq, tst_eq, evl_eq, itr_eq, e_add, e_sub, e_mul_l, e_mul_r, e_div, e_mod, e_adds, e_addl, e_set, e_rho_nil, e_rho, e_fint, e_fstr, e_fnone, e_fbool, e_flist, e_ftup, e_rv, e_rl, e_rd, e_putd, e_puts, e_putRd, e_putRs, e_tup, e_putn, e_putc, e_thn, e_thr, e_lt, e_le, e_gt, e_ge, e_eqi, e_nei, e_eqs, e_nes, e_is, e_isnot, e_len_l, e_len_t, e_len_s, e_tb, e_ti, e_tl, e_tn, e_inc, fix_d, fl_nil, fl_int, fl_str, fl_none, fl_bool, fl_tup, ofS_beq, String.reduceBEq, Bool.and_true, Bool.true_and, e_idx_s, e_idx_l, e_idx_t, e_sls, e_sll, hi_none, lo_none, le_line, le_lineI, rng_lo, fls_nil, fls_d, newL_d, fixT_d, S_length, Option.bind_eq_bind, Option.bind_some, Option.map_some, Option.bind_none, Option.map_none, if_true, if_false, Bool.false_eq_true, decide_eq_true_eq, List.map_cons, List.map_nil, List.length_cons, List.length_nil, and_self, and_true, true_and, true_or, or_true, not_true, not_false, List.mem_cons, List.not_mem_nil, or_false, false_or, or_self, String.reduceEq, reduceIte, ne_eq, Int.reduceLT, Int.reduceLE, Nat.reduceAdd, Nat.reduceLeDiff, Int.reducePow, Int.reduceNeg, Int.reduceBEq, Int.reduceEq, Int.reduceToNat, Int.reduceAdd, Int.reduceSub, Int.reduceMul, reduceCtorEq, Bool.not_true, Bool.not_false, Bool.not_eq_true, f2, f3, hr]; rfl) ?_
      refine seqN (by simp only [run_eq, tst_eq, evl_eq, itr_eq, e_add, e_sub, e_mul_l, e_mul_r, e_div, e_mod, e_adds, e_addl, e_set, e_rho_nil, e_rho, e_fint, e_fstr, e_fnone, e_fbool, e_flist, e_ftup, e_rv, e_rl, e_rd, e_putd, e_puts, e_putRd, e_putRs, e_tup, e_putn, e_putc, e_thn, e_thr, e_lt, e_le, e_gt, e_ge, e_eqi, e_nei, e_eqs, e_nes, e_is, e_isnot, e_len_l, e_len_t, e_len_s, e_tb, e_ti, e_tl, e_tn, e_inc, fix_d, fl_nil, fl_int, fl_str, fl_none, fl_bool, fl_tup, ofS_beq, String.reduceBEq, Bool.and_true, Bool.true_and, e_idx_s, e_idx_l, e_idx_t, e_sls, e_sll, hi_none, lo_none, le_line, le_lineI, rng_lo, fls_nil, fls_d, newL_d, fixT_d, S_length, Option.bind_eq_bind, Option.bind_some, Option.map_some, Option.bind_none, Option.map_none, if_true, if_false, Bool.false_eq_true, decide_eq_true_eq, List.map_cons, List.map_nil, List.length_cons, List.length_nil, and_self, and_true, true_and, true_or, or_true, not_true, not_false, List.mem_cons, List.not_mem_nil, or_false, false_or, or_self, String.reduceEq, reduceIte, ne_eq, Int.reduceLT, Int.reduceLE, Nat.reduceAdd, Nat.reduceLeDiff, Int.reducePow, Int.reduceNeg, Int.reduceBEq, Int.reduceEq, Int.reduceToNat, Int.reduceAdd, Int.reduceSub, Int.reduceMul, reduceCtorEq, Bool.not_true, Bool.not_false, Bool.not_eq_true, f1, a4]; rfl) ?_
      have hf := e_fact (c / 10 + sAt l 4) (plotsS l) (namesS l (plotsS l)) hpp hnpos
      have hpf : ∀ q, plotOf (factS (c / 10 + sAt l 4) (plotsS l) (namesS l (plotsS l))) = some q → q ∈ (plotsS l).map (·.1) := fun q hq => plotOf_fact hpp hq
      refine seqN (by simp only [run_eq, tst_eq, evl_eq, itr_eq, e_add, e_sub, e_mul_l, e_mul_r, e_div, e_mod, e_adds, e_addl, e_set, e_rho_nil, e_rho, e_fint, e_fstr, e_fnone, e_fbool, e_flist, e_ftup, e_rv, e_rl, e_rd, e_putd, e_puts, e_putRd, e_putRs, e_tup, e_putn, e_putc, e_thn, e_thr, e_lt, e_le, e_gt, e_ge, e_eqi, e_nei, e_eqs, e_nes, e_is, e_isnot, e_len_l, e_len_t, e_len_s, e_tb, e_ti, e_tl, e_tn, e_inc, fix_d, fl_nil, fl_int, fl_str, fl_none, fl_bool, fl_tup, ofS_beq, String.reduceBEq, Bool.and_true, Bool.true_and, e_idx_s, e_idx_l, e_idx_t, e_sls, e_sll, hi_none, lo_none, le_line, le_lineI, rng_lo, fls_nil, fls_d, newL_d, fixT_d, S_length, Option.bind_eq_bind, Option.bind_some, Option.map_some, Option.bind_none, Option.map_none, if_true, if_false, Bool.false_eq_true, decide_eq_true_eq, List.map_cons, List.map_nil, List.length_cons, List.length_nil, and_self, and_true, true_and, true_or, or_true, not_true, not_false, List.mem_cons, List.not_mem_nil, or_false, false_or, or_self, String.reduceEq, reduceIte, ne_eq, Int.reduceLT, Int.reduceLE, Nat.reduceAdd, Nat.reduceLeDiff, Int.reducePow, Int.reduceNeg, Int.reduceBEq, Int.reduceEq, Int.reduceToNat, Int.reduceAdd, Int.reduceSub, Int.reduceMul, reduceCtorEq, Bool.not_true, Bool.not_false, Bool.not_eq_true, f2, f3, hf]; rfl) ?_
      clear hf
      generalize factS (c / 10 + sAt l 4) (plotsS l) (namesS l (plotsS l)) = f at hpf ⊢
      have hlw := e_lw (plotsS l) r f (plots_nodup l) fun p hp => lookup_of (hop p hp)
      by_cases hw : wrongS (plotsS l) r f = ""
      · obtain ⟨ch, hch⟩ : ∃ ch, ∀ q, plotOf f = some q → Chain (plotsS l) ch ∧ ch[0]? = some q ∧ ch.length ≤ 90 ∧ scan (plotsS l).reverse (some q) = ch := by
          cases hq : plotOf f with
          | none => exact ⟨[], fun q h => by cases h⟩
          | some q =>
            obtain ⟨ch, h⟩ := scan_all (hpf q hq)
            exact ⟨ch, fun q' h' => by cases h'; exact h⟩
        have hb1 := e_b (plotsS l) r f ch (plots_nodup l) (by omega) fun q hq => ⟨(hch q hq).1, (hch q hq).2.1, (hch q hq).2.2.1⟩
        have hb2 := e_lb (plotsS l) r f ch (by omega) hw fun q hq => (hch q hq).2.2.2
        generalize behindS ch r f = bs at hb1 hb2
        rw [hw] at hlw
        have pb : aCmp .NotEq (.list (bs.map factP)) (.list (bs.map factP)) = some false := e_ne_self (plain_mono (plain_map plain_fact _) (by decide))
        have pn : aCmp .NotEq (.list []) (.list []) = some false := e_ne_self (plain_mono (plain_list (k := 1) fun x hx => nomatch hx) (by decide))
        refine seqN (ifR_yes (by simp only [run_eq, tst_eq, evl_eq, itr_eq, e_add, e_sub, e_mul_l, e_mul_r, e_div, e_mod, e_adds, e_addl, e_set, e_rho_nil, e_rho, e_fint, e_fstr, e_fnone, e_fbool, e_flist, e_ftup, e_rv, e_rl, e_rd, e_putd, e_puts, e_putRd, e_putRs, e_tup, e_putn, e_putc, e_thn, e_thr, e_lt, e_le, e_gt, e_ge, e_eqi, e_nei, e_eqs, e_nes, e_is, e_isnot, e_len_l, e_len_t, e_len_s, e_tb, e_ti, e_tl, e_tn, e_inc, fix_d, fl_nil, fl_int, fl_str, fl_none, fl_bool, fl_tup, ofS_beq, String.reduceBEq, Bool.and_true, Bool.true_and, e_idx_s, e_idx_l, e_idx_t, e_sls, e_sll, hi_none, lo_none, le_line, le_lineI, rng_lo, fls_nil, fls_d, newL_d, fixT_d, S_length, Option.bind_eq_bind, Option.bind_some, Option.map_some, Option.bind_none, Option.map_none, if_true, if_false, Bool.false_eq_true, decide_eq_true_eq, List.map_cons, List.map_nil, List.length_cons, List.length_nil, and_self, and_true, true_and, true_or, or_true, not_true, not_false, List.mem_cons, List.not_mem_nil, or_false, false_or, or_self, String.reduceEq, reduceIte, ne_eq, Int.reduceLT, Int.reduceLE, Nat.reduceAdd, Nat.reduceLeDiff, Int.reducePow, Int.reduceNeg, Int.reduceBEq, Int.reduceEq, Int.reduceToNat, Int.reduceAdd, Int.reduceSub, Int.reduceMul, reduceCtorEq, Bool.not_true, Bool.not_false, Bool.not_eq_true, f2, hlw]) (seq (by simp only [run_eq, tst_eq, evl_eq, itr_eq, e_add, e_sub, e_mul_l, e_mul_r, e_div, e_mod, e_adds, e_addl, e_set, e_rho_nil, e_rho, e_fint, e_fstr, e_fnone, e_fbool, e_flist, e_ftup, e_rv, e_rl, e_rd, e_putd, e_puts, e_putRd, e_putRs, e_tup, e_putn, e_putc, e_thn, e_thr, e_lt, e_le, e_gt, e_ge, e_eqi, e_nei, e_eqs, e_nes, e_is, e_isnot, e_len_l, e_len_t, e_len_s, e_tb, e_ti, e_tl, e_tn, e_inc, fix_d, fl_nil, fl_int, fl_str, fl_none, fl_bool, fl_tup, ofS_beq, String.reduceBEq, Bool.and_true, Bool.true_and, e_idx_s, e_idx_l, e_idx_t, e_sls, e_sll, hi_none, lo_none, le_line, le_lineI, rng_lo, fls_nil, fls_d, newL_d, fixT_d, S_length, Option.bind_eq_bind, Option.bind_some, Option.map_some, Option.bind_none, Option.map_none, if_true, if_false, Bool.false_eq_true, decide_eq_true_eq, List.map_cons, List.map_nil, List.length_cons, List.length_nil, and_self, and_true, true_and, true_or, or_true, not_true, not_false, List.mem_cons, List.not_mem_nil, or_false, false_or, or_self, String.reduceEq, reduceIte, ne_eq, Int.reduceLT, Int.reduceLE, Nat.reduceAdd, Nat.reduceLeDiff, Int.reducePow, Int.reduceNeg, Int.reduceBEq, Int.reduceEq, Int.reduceToNat, Int.reduceAdd, Int.reduceSub, Int.reduceMul, reduceCtorEq, Bool.not_true, Bool.not_false, Bool.not_eq_true, f4, hb1]; rfl) (seq (ifR_no (by simp only [run_eq, tst_eq, evl_eq, itr_eq, e_add, e_sub, e_mul_l, e_mul_r, e_div, e_mod, e_adds, e_addl, e_set, e_rho_nil, e_rho, e_fint, e_fstr, e_fnone, e_fbool, e_flist, e_ftup, e_rv, e_rl, e_rd, e_putd, e_puts, e_putRd, e_putRs, e_tup, e_putn, e_putc, e_thn, e_thr, e_lt, e_le, e_gt, e_ge, e_eqi, e_nei, e_eqs, e_nes, e_is, e_isnot, e_len_l, e_len_t, e_len_s, e_tb, e_ti, e_tl, e_tn, e_inc, fix_d, fl_nil, fl_int, fl_str, fl_none, fl_bool, fl_tup, ofS_beq, String.reduceBEq, Bool.and_true, Bool.true_and, e_idx_s, e_idx_l, e_idx_t, e_sls, e_sll, hi_none, lo_none, le_line, le_lineI, rng_lo, fls_nil, fls_d, newL_d, fixT_d, S_length, Option.bind_eq_bind, Option.bind_some, Option.map_some, Option.bind_none, Option.map_none, if_true, if_false, Bool.false_eq_true, decide_eq_true_eq, List.map_cons, List.map_nil, List.length_cons, List.length_nil, and_self, and_true, true_and, true_or, or_true, not_true, not_false, List.mem_cons, List.not_mem_nil, or_false, false_or, or_self, String.reduceEq, reduceIte, ne_eq, Int.reduceLT, Int.reduceLE, Nat.reduceAdd, Nat.reduceLeDiff, Int.reducePow, Int.reduceNeg, Int.reduceBEq, Int.reduceEq, Int.reduceToNat, Int.reduceAdd, Int.reduceSub, Int.reduceMul, reduceCtorEq, Bool.not_true, Bool.not_false, Bool.not_eq_true, f2, hb2, pb, isT, tyName, Bool.true_or, Bool.or_false]) rfl) (seq (ifR_no (by
          simp only [run_eq, tst_eq, evl_eq, itr_eq, e_add, e_sub, e_mul_l, e_mul_r, e_div, e_mod, e_adds, e_addl, e_set, e_rho_nil, e_rho, e_fint, e_fstr, e_fnone, e_fbool, e_flist, e_ftup, e_rv, e_rl, e_rd, e_putd, e_puts, e_putRd, e_putRs, e_tup, e_putn, e_putc, e_thn, e_thr, e_lt, e_le, e_gt, e_ge, e_eqi, e_nei, e_eqs, e_nes, e_is, e_isnot, e_len_l, e_len_t, e_len_s, e_tb, e_ti, e_tl, e_tn, e_inc, fix_d, fl_nil, fl_int, fl_str, fl_none, fl_bool, fl_tup, ofS_beq, String.reduceBEq, Bool.and_true, Bool.true_and, e_idx_s, e_idx_l, e_idx_t, e_sls, e_sll, hi_none, lo_none, le_line, le_lineI, rng_lo, fls_nil, fls_d, newL_d, fixT_d, S_length, Option.bind_eq_bind, Option.bind_some, Option.map_some, Option.bind_none, Option.map_none, if_true, if_false, Bool.false_eq_true, decide_eq_true_eq, List.map_cons, List.map_nil, List.length_cons, List.length_nil, and_self, and_true, true_and, true_or, or_true, not_true, not_false, List.mem_cons, List.not_mem_nil, or_false, false_or, or_self, String.reduceEq, reduceIte, ne_eq, Int.reduceLT, Int.reduceLE, Nat.reduceAdd, Nat.reduceLeDiff, Int.reducePow, Int.reduceNeg, Int.reduceBEq, Int.reduceEq, Int.reduceToNat, Int.reduceAdd, Int.reduceSub, Int.reduceMul, reduceCtorEq, Bool.not_true, Bool.not_false, Bool.not_eq_true, compV, itemsOf]
          rw [comp_enc factP (fun _ => none) (fun f _ => by simp only [run_eq, tst_eq, evl_eq, itr_eq, e_add, e_sub, e_mul_l, e_mul_r, e_div, e_mod, e_adds, e_addl, e_set, e_rho_nil, e_rho, e_fint, e_fstr, e_fnone, e_fbool, e_flist, e_ftup, e_rv, e_rl, e_rd, e_putd, e_puts, e_putRd, e_putRs, e_tup, e_putn, e_putc, e_thn, e_thr, e_lt, e_le, e_gt, e_ge, e_eqi, e_nei, e_eqs, e_nes, e_is, e_isnot, e_len_l, e_len_t, e_len_s, e_tb, e_ti, e_tl, e_tn, e_inc, fix_d, fl_nil, fl_int, fl_str, fl_none, fl_bool, fl_tup, ofS_beq, String.reduceBEq, Bool.and_true, Bool.true_and, e_idx_s, e_idx_l, e_idx_t, e_sls, e_sll, hi_none, lo_none, le_line, le_lineI, rng_lo, fls_nil, fls_d, newL_d, fixT_d, S_length, Option.bind_eq_bind, Option.bind_some, Option.map_some, Option.bind_none, Option.map_none, if_true, if_false, Bool.false_eq_true, decide_eq_true_eq, List.map_cons, List.map_nil, List.length_cons, List.length_nil, and_self, and_true, true_and, true_or, or_true, not_true, not_false, List.mem_cons, List.not_mem_nil, or_false, false_or, or_self, String.reduceEq, reduceIte, ne_eq, Int.reduceLT, Int.reduceLE, Nat.reduceAdd, Nat.reduceLeDiff, Int.reducePow, Int.reduceNeg, Int.reduceBEq, Int.reduceEq, Int.reduceToNat, Int.reduceAdd, Int.reduceSub, Int.reduceMul, reduceCtorEq, Bool.not_true, Bool.not_false, Bool.not_eq_true, cstep, fix_fact, e_kind])]
          rw [fm_none]
          simp only [run_eq, tst_eq, evl_eq, itr_eq, e_add, e_sub, e_mul_l, e_mul_r, e_div, e_mod, e_adds, e_addl, e_set, e_rho_nil, e_rho, e_fint, e_fstr, e_fnone, e_fbool, e_flist, e_ftup, e_rv, e_rl, e_rd, e_putd, e_puts, e_putRd, e_putRs, e_tup, e_putn, e_putc, e_thn, e_thr, e_lt, e_le, e_gt, e_ge, e_eqi, e_nei, e_eqs, e_nes, e_is, e_isnot, e_len_l, e_len_t, e_len_s, e_tb, e_ti, e_tl, e_tn, e_inc, fix_d, fl_nil, fl_int, fl_str, fl_none, fl_bool, fl_tup, ofS_beq, String.reduceBEq, Bool.and_true, Bool.true_and, e_idx_s, e_idx_l, e_idx_t, e_sls, e_sll, hi_none, lo_none, le_line, le_lineI, rng_lo, fls_nil, fls_d, newL_d, fixT_d, S_length, Option.bind_eq_bind, Option.bind_some, Option.map_some, Option.bind_none, Option.map_none, if_true, if_false, Bool.false_eq_true, decide_eq_true_eq, List.map_cons, List.map_nil, List.length_cons, List.length_nil, and_self, and_true, true_and, true_or, or_true, not_true, not_false, List.mem_cons, List.not_mem_nil, or_false, false_or, or_self, String.reduceEq, reduceIte, ne_eq, Int.reduceLT, Int.reduceLE, Nat.reduceAdd, Nat.reduceLeDiff, Int.reducePow, Int.reduceNeg, Int.reduceBEq, Int.reduceEq, Int.reduceToNat, Int.reduceAdd, Int.reduceSub, Int.reduceMul, reduceCtorEq, Bool.not_true, Bool.not_false, Bool.not_eq_true, pn]) rfl) rfl)))) ?_
        exact doneN ⟨by simp only [run_eq, tst_eq, evl_eq, itr_eq, e_add, e_sub, e_mul_l, e_mul_r, e_div, e_mod, e_adds, e_addl, e_set, e_rho_nil, e_rho, e_fint, e_fstr, e_fnone, e_fbool, e_flist, e_ftup, e_rv, e_rl, e_rd, e_putd, e_puts, e_putRd, e_putRs, e_tup, e_putn, e_putc, e_thn, e_thr, e_lt, e_le, e_gt, e_ge, e_eqi, e_nei, e_eqs, e_nes, e_is, e_isnot, e_len_l, e_len_t, e_len_s, e_tb, e_ti, e_tl, e_tn, e_inc, fix_d, fl_nil, fl_int, fl_str, fl_none, fl_bool, fl_tup, ofS_beq, String.reduceBEq, Bool.and_true, Bool.true_and, e_idx_s, e_idx_l, e_idx_t, e_sls, e_sll, hi_none, lo_none, le_line, le_lineI, rng_lo, fls_nil, fls_d, newL_d, fixT_d, S_length, Option.bind_eq_bind, Option.bind_some, Option.map_some, Option.bind_none, Option.map_none, if_true, if_false, Bool.false_eq_true, decide_eq_true_eq, List.map_cons, List.map_nil, List.length_cons, List.length_nil, and_self, and_true, true_and, true_or, or_true, not_true, not_false, List.mem_cons, List.not_mem_nil, or_false, false_or, or_self, String.reduceEq, reduceIte, ne_eq, Int.reduceLT, Int.reduceLE, Nat.reduceAdd, Nat.reduceLeDiff, Int.reducePow, Int.reduceNeg, Int.reduceBEq, Int.reduceEq, Int.reduceToNat, Int.reduceAdd, Int.reduceSub, Int.reduceMul, reduceCtorEq, Bool.not_true, Bool.not_false, Bool.not_eq_true, f1], by simp only [run_eq, tst_eq, evl_eq, itr_eq, e_add, e_sub, e_mul_l, e_mul_r, e_div, e_mod, e_adds, e_addl, e_set, e_rho_nil, e_rho, e_fint, e_fstr, e_fnone, e_fbool, e_flist, e_ftup, e_rv, e_rl, e_rd, e_putd, e_puts, e_putRd, e_putRs, e_tup, e_putn, e_putc, e_thn, e_thr, e_lt, e_le, e_gt, e_ge, e_eqi, e_nei, e_eqs, e_nes, e_is, e_isnot, e_len_l, e_len_t, e_len_s, e_tb, e_ti, e_tl, e_tn, e_inc, fix_d, fl_nil, fl_int, fl_str, fl_none, fl_bool, fl_tup, ofS_beq, String.reduceBEq, Bool.and_true, Bool.true_and, e_idx_s, e_idx_l, e_idx_t, e_sls, e_sll, hi_none, lo_none, le_line, le_lineI, rng_lo, fls_nil, fls_d, newL_d, fixT_d, S_length, Option.bind_eq_bind, Option.bind_some, Option.map_some, Option.bind_none, Option.map_none, if_true, if_false, Bool.false_eq_true, decide_eq_true_eq, List.map_cons, List.map_nil, List.length_cons, List.length_nil, and_self, and_true, true_and, true_or, or_true, not_true, not_false, List.mem_cons, List.not_mem_nil, or_false, false_or, or_self, String.reduceEq, reduceIte, ne_eq, Int.reduceLT, Int.reduceLE, Nat.reduceAdd, Nat.reduceLeDiff, Int.reducePow, Int.reduceNeg, Int.reduceBEq, Int.reduceEq, Int.reduceToNat, Int.reduceAdd, Int.reduceSub, Int.reduceMul, reduceCtorEq, Bool.not_true, Bool.not_false, Bool.not_eq_true, f2], by simp only [run_eq, tst_eq, evl_eq, itr_eq, e_add, e_sub, e_mul_l, e_mul_r, e_div, e_mod, e_adds, e_addl, e_set, e_rho_nil, e_rho, e_fint, e_fstr, e_fnone, e_fbool, e_flist, e_ftup, e_rv, e_rl, e_rd, e_putd, e_puts, e_putRd, e_putRs, e_tup, e_putn, e_putc, e_thn, e_thr, e_lt, e_le, e_gt, e_ge, e_eqi, e_nei, e_eqs, e_nes, e_is, e_isnot, e_len_l, e_len_t, e_len_s, e_tb, e_ti, e_tl, e_tn, e_inc, fix_d, fl_nil, fl_int, fl_str, fl_none, fl_bool, fl_tup, ofS_beq, String.reduceBEq, Bool.and_true, Bool.true_and, e_idx_s, e_idx_l, e_idx_t, e_sls, e_sll, hi_none, lo_none, le_line, le_lineI, rng_lo, fls_nil, fls_d, newL_d, fixT_d, S_length, Option.bind_eq_bind, Option.bind_some, Option.map_some, Option.bind_none, Option.map_none, if_true, if_false, Bool.false_eq_true, decide_eq_true_eq, List.map_cons, List.map_nil, List.length_cons, List.length_nil, and_self, and_true, true_and, true_or, or_true, not_true, not_false, List.mem_cons, List.not_mem_nil, or_false, false_or, or_self, String.reduceEq, reduceIte, ne_eq, Int.reduceLT, Int.reduceLE, Nat.reduceAdd, Nat.reduceLeDiff, Int.reducePow, Int.reduceNeg, Int.reduceBEq, Int.reduceEq, Int.reduceToNat, Int.reduceAdd, Int.reduceSub, Int.reduceMul, reduceCtorEq, Bool.not_true, Bool.not_false, Bool.not_eq_true, f3], by simp only [run_eq, tst_eq, evl_eq, itr_eq, e_add, e_sub, e_mul_l, e_mul_r, e_div, e_mod, e_adds, e_addl, e_set, e_rho_nil, e_rho, e_fint, e_fstr, e_fnone, e_fbool, e_flist, e_ftup, e_rv, e_rl, e_rd, e_putd, e_puts, e_putRd, e_putRs, e_tup, e_putn, e_putc, e_thn, e_thr, e_lt, e_le, e_gt, e_ge, e_eqi, e_nei, e_eqs, e_nes, e_is, e_isnot, e_len_l, e_len_t, e_len_s, e_tb, e_ti, e_tl, e_tn, e_inc, fix_d, fl_nil, fl_int, fl_str, fl_none, fl_bool, fl_tup, ofS_beq, String.reduceBEq, Bool.and_true, Bool.true_and, e_idx_s, e_idx_l, e_idx_t, e_sls, e_sll, hi_none, lo_none, le_line, le_lineI, rng_lo, fls_nil, fls_d, newL_d, fixT_d, S_length, Option.bind_eq_bind, Option.bind_some, Option.map_some, Option.bind_none, Option.map_none, if_true, if_false, Bool.false_eq_true, decide_eq_true_eq, List.map_cons, List.map_nil, List.length_cons, List.length_nil, and_self, and_true, true_and, true_or, or_true, not_true, not_false, List.mem_cons, List.not_mem_nil, or_false, false_or, or_self, String.reduceEq, reduceIte, ne_eq, Int.reduceLT, Int.reduceLE, Nat.reduceAdd, Nat.reduceLeDiff, Int.reducePow, Int.reduceNeg, Int.reduceBEq, Int.reduceEq, Int.reduceToNat, Int.reduceAdd, Int.reduceSub, Int.reduceMul, reduceCtorEq, Bool.not_true, Bool.not_false, Bool.not_eq_true, f4]⟩
      · have hw' : (wrongS (plotsS l) r f == "") = false := beq_eq_false_iff_ne.mpr hw
        refine seqN (ifR_no (by simp only [run_eq, tst_eq, evl_eq, itr_eq, e_add, e_sub, e_mul_l, e_mul_r, e_div, e_mod, e_adds, e_addl, e_set, e_rho_nil, e_rho, e_fint, e_fstr, e_fnone, e_fbool, e_flist, e_ftup, e_rv, e_rl, e_rd, e_putd, e_puts, e_putRd, e_putRs, e_tup, e_putn, e_putc, e_thn, e_thr, e_lt, e_le, e_gt, e_ge, e_eqi, e_nei, e_eqs, e_nes, e_is, e_isnot, e_len_l, e_len_t, e_len_s, e_tb, e_ti, e_tl, e_tn, e_inc, fix_d, fl_nil, fl_int, fl_str, fl_none, fl_bool, fl_tup, ofS_beq, String.reduceBEq, Bool.and_true, Bool.true_and, e_idx_s, e_idx_l, e_idx_t, e_sls, e_sll, hi_none, lo_none, le_line, le_lineI, rng_lo, fls_nil, fls_d, newL_d, fixT_d, S_length, Option.bind_eq_bind, Option.bind_some, Option.map_some, Option.bind_none, Option.map_none, if_true, if_false, Bool.false_eq_true, decide_eq_true_eq, List.map_cons, List.map_nil, List.length_cons, List.length_nil, and_self, and_true, true_and, true_or, or_true, not_true, not_false, List.mem_cons, List.not_mem_nil, or_false, false_or, or_self, String.reduceEq, reduceIte, ne_eq, Int.reduceLT, Int.reduceLE, Nat.reduceAdd, Nat.reduceLeDiff, Int.reducePow, Int.reduceNeg, Int.reduceBEq, Int.reduceEq, Int.reduceToNat, Int.reduceAdd, Int.reduceSub, Int.reduceMul, reduceCtorEq, Bool.not_true, Bool.not_false, Bool.not_eq_true, f2, hlw, hw']) rfl) ?_
        exact doneN ⟨by simp only [run_eq, tst_eq, evl_eq, itr_eq, e_add, e_sub, e_mul_l, e_mul_r, e_div, e_mod, e_adds, e_addl, e_set, e_rho_nil, e_rho, e_fint, e_fstr, e_fnone, e_fbool, e_flist, e_ftup, e_rv, e_rl, e_rd, e_putd, e_puts, e_putRd, e_putRs, e_tup, e_putn, e_putc, e_thn, e_thr, e_lt, e_le, e_gt, e_ge, e_eqi, e_nei, e_eqs, e_nes, e_is, e_isnot, e_len_l, e_len_t, e_len_s, e_tb, e_ti, e_tl, e_tn, e_inc, fix_d, fl_nil, fl_int, fl_str, fl_none, fl_bool, fl_tup, ofS_beq, String.reduceBEq, Bool.and_true, Bool.true_and, e_idx_s, e_idx_l, e_idx_t, e_sls, e_sll, hi_none, lo_none, le_line, le_lineI, rng_lo, fls_nil, fls_d, newL_d, fixT_d, S_length, Option.bind_eq_bind, Option.bind_some, Option.map_some, Option.bind_none, Option.map_none, if_true, if_false, Bool.false_eq_true, decide_eq_true_eq, List.map_cons, List.map_nil, List.length_cons, List.length_nil, and_self, and_true, true_and, true_or, or_true, not_true, not_false, List.mem_cons, List.not_mem_nil, or_false, false_or, or_self, String.reduceEq, reduceIte, ne_eq, Int.reduceLT, Int.reduceLE, Nat.reduceAdd, Nat.reduceLeDiff, Int.reducePow, Int.reduceNeg, Int.reduceBEq, Int.reduceEq, Int.reduceToNat, Int.reduceAdd, Int.reduceSub, Int.reduceMul, reduceCtorEq, Bool.not_true, Bool.not_false, Bool.not_eq_true, f1], by simp only [run_eq, tst_eq, evl_eq, itr_eq, e_add, e_sub, e_mul_l, e_mul_r, e_div, e_mod, e_adds, e_addl, e_set, e_rho_nil, e_rho, e_fint, e_fstr, e_fnone, e_fbool, e_flist, e_ftup, e_rv, e_rl, e_rd, e_putd, e_puts, e_putRd, e_putRs, e_tup, e_putn, e_putc, e_thn, e_thr, e_lt, e_le, e_gt, e_ge, e_eqi, e_nei, e_eqs, e_nes, e_is, e_isnot, e_len_l, e_len_t, e_len_s, e_tb, e_ti, e_tl, e_tn, e_inc, fix_d, fl_nil, fl_int, fl_str, fl_none, fl_bool, fl_tup, ofS_beq, String.reduceBEq, Bool.and_true, Bool.true_and, e_idx_s, e_idx_l, e_idx_t, e_sls, e_sll, hi_none, lo_none, le_line, le_lineI, rng_lo, fls_nil, fls_d, newL_d, fixT_d, S_length, Option.bind_eq_bind, Option.bind_some, Option.map_some, Option.bind_none, Option.map_none, if_true, if_false, Bool.false_eq_true, decide_eq_true_eq, List.map_cons, List.map_nil, List.length_cons, List.length_nil, and_self, and_true, true_and, true_or, or_true, not_true, not_false, List.mem_cons, List.not_mem_nil, or_false, false_or, or_self, String.reduceEq, reduceIte, ne_eq, Int.reduceLT, Int.reduceLE, Nat.reduceAdd, Nat.reduceLeDiff, Int.reducePow, Int.reduceNeg, Int.reduceBEq, Int.reduceEq, Int.reduceToNat, Int.reduceAdd, Int.reduceSub, Int.reduceMul, reduceCtorEq, Bool.not_true, Bool.not_false, Bool.not_eq_true, f2], by simp only [run_eq, tst_eq, evl_eq, itr_eq, e_add, e_sub, e_mul_l, e_mul_r, e_div, e_mod, e_adds, e_addl, e_set, e_rho_nil, e_rho, e_fint, e_fstr, e_fnone, e_fbool, e_flist, e_ftup, e_rv, e_rl, e_rd, e_putd, e_puts, e_putRd, e_putRs, e_tup, e_putn, e_putc, e_thn, e_thr, e_lt, e_le, e_gt, e_ge, e_eqi, e_nei, e_eqs, e_nes, e_is, e_isnot, e_len_l, e_len_t, e_len_s, e_tb, e_ti, e_tl, e_tn, e_inc, fix_d, fl_nil, fl_int, fl_str, fl_none, fl_bool, fl_tup, ofS_beq, String.reduceBEq, Bool.and_true, Bool.true_and, e_idx_s, e_idx_l, e_idx_t, e_sls, e_sll, hi_none, lo_none, le_line, le_lineI, rng_lo, fls_nil, fls_d, newL_d, fixT_d, S_length, Option.bind_eq_bind, Option.bind_some, Option.map_some, Option.bind_none, Option.map_none, if_true, if_false, Bool.false_eq_true, decide_eq_true_eq, List.map_cons, List.map_nil, List.length_cons, List.length_nil, and_self, and_true, true_and, true_or, or_true, not_true, not_false, List.mem_cons, List.not_mem_nil, or_false, false_or, or_self, String.reduceEq, reduceIte, ne_eq, Int.reduceLT, Int.reduceLE, Nat.reduceAdd, Nat.reduceLeDiff, Int.reducePow, Int.reduceNeg, Int.reduceBEq, Int.reduceEq, Int.reduceToNat, Int.reduceAdd, Int.reduceSub, Int.reduceMul, reduceCtorEq, Bool.not_true, Bool.not_false, Bool.not_eq_true, f3], by simp only [run_eq, tst_eq, evl_eq, itr_eq, e_add, e_sub, e_mul_l, e_mul_r, e_div, e_mod, e_adds, e_addl, e_set, e_rho_nil, e_rho, e_fint, e_fstr, e_fnone, e_fbool, e_flist, e_ftup, e_rv, e_rl, e_rd, e_putd, e_puts, e_putRd, e_putRs, e_tup, e_putn, e_putc, e_thn, e_thr, e_lt, e_le, e_gt, e_ge, e_eqi, e_nei, e_eqs, e_nes, e_is, e_isnot, e_len_l, e_len_t, e_len_s, e_tb, e_ti, e_tl, e_tn, e_inc, fix_d, fl_nil, fl_int, fl_str, fl_none, fl_bool, fl_tup, ofS_beq, String.reduceBEq, Bool.and_true, Bool.true_and, e_idx_s, e_idx_l, e_idx_t, e_sls, e_sll, hi_none, lo_none, le_line, le_lineI, rng_lo, fls_nil, fls_d, newL_d, fixT_d, S_length, Option.bind_eq_bind, Option.bind_some, Option.map_some, Option.bind_none, Option.map_none, if_true, if_false, Bool.false_eq_true, decide_eq_true_eq, List.map_cons, List.map_nil, List.length_cons, List.length_nil, and_self, and_true, true_and, true_or, or_true, not_true, not_false, List.mem_cons, List.not_mem_nil, or_false, false_or, or_self, String.reduceEq, reduceIte, ne_eq, Int.reduceLT, Int.reduceLE, Nat.reduceAdd, Nat.reduceLeDiff, Int.reducePow, Int.reduceNeg, Int.reduceBEq, Int.reduceEq, Int.reduceToNat, Int.reduceAdd, Int.reduceSub, Int.reduceMul, reduceCtorEq, Bool.not_true, Bool.not_false, Bool.not_eq_true, f4]⟩
  · rintro ρ ⟨f1, f2⟩
    have ph : aCmp .Eq (.list ((plotsS l).map plotP)) (.list ((plotsS l).map plotP)) = some true := e_eq_self (plain_mono (plain_map plain_plot _) (by decide))
    exact seqRet (by simp only [run_eq, tst_eq, evl_eq, itr_eq, e_add, e_sub, e_mul_l, e_mul_r, e_div, e_mod, e_adds, e_addl, e_set, e_rho_nil, e_rho, e_fint, e_fstr, e_fnone, e_fbool, e_flist, e_ftup, e_rv, e_rl, e_rd, e_putd, e_puts, e_putRd, e_putRs, e_tup, e_putn, e_putc, e_thn, e_thr, e_lt, e_le, e_gt, e_ge, e_eqi, e_nei, e_eqs, e_nes, e_is, e_isnot, e_len_l, e_len_t, e_len_s, e_tb, e_ti, e_tl, e_tn, e_inc, fix_d, fl_nil, fl_int, fl_str, fl_none, fl_bool, fl_tup, ofS_beq, String.reduceBEq, Bool.and_true, Bool.true_and, e_idx_s, e_idx_l, e_idx_t, e_sls, e_sll, hi_none, lo_none, le_line, le_lineI, rng_lo, fls_nil, fls_d, newL_d, fixT_d, S_length, Option.bind_eq_bind, Option.bind_some, Option.map_some, Option.bind_none, Option.map_none, if_true, if_false, Bool.false_eq_true, decide_eq_true_eq, List.map_cons, List.map_nil, List.length_cons, List.length_nil, and_self, and_true, true_and, true_or, or_true, not_true, not_false, List.mem_cons, List.not_mem_nil, or_false, false_or, or_self, String.reduceEq, reduceIte, ne_eq, Int.reduceLT, Int.reduceLE, Nat.reduceAdd, Nat.reduceLeDiff, Int.reducePow, Int.reduceNeg, Int.reduceBEq, Int.reduceEq, Int.reduceToNat, Int.reduceAdd, Int.reduceSub, Int.reduceMul, reduceCtorEq, Bool.not_true, Bool.not_false, Bool.not_eq_true, f1, f2, ph])
end Mine

/-! text F08_fin08 -/
open PySem PySem.W PyProof.Rows Mine
set_option maxRecDepth 100000 in
set_option maxHeartbeats 8000000 in
theorem PySem.Challenge.cw_uf010022_08_holds : PySem.Challenge.rw_uf010022_08.Holds := by
  w_on; o_law; k_head
  case hw => w_witness2
  k_fill
  intro w s₀ s₁ mg mb G Y fa o pm cd doc dV kV ho hd hcd hD hmg hg args vals as hpre hlay hrd hwl hlo
  have KX := kIn_of Y
  refine Ground.open G ?_
  intro T TB D TE TW
  have hmg' : mg (Str.ofString "law") = some (.ref fa) := hmg
  clear ho hd hcd hD hmg
  have D1 : DefAt s₁.heap "_law_at" (fnS pw 8) ["_law_script", "_law_k"] (fnB pw 8) := defAt_of KX T.g (by k_is) (by k_is) (by k_is) rfl rfl rfl rfl (by decide +kernel) (by decide) (by decide +kernel)
  have D2 : DefAt s₁.heap "_law_called" (fnS pw 9) ["_law_cell", "_law_k", "_law_signs"] (fnB pw 9) := defAt_of KX T.g (by k_is) (by k_is) (by k_is) rfl rfl rfl rfl (by decide +kernel) (by decide) (by decide +kernel)
  have D3 : DefAt s₁.heap "_law_plots" (fnS pw 10) ["_law_script"] (fnB pw 10) := defAt_of KX T.g (by k_is) (by k_is) (by k_is) rfl rfl rfl rfl (by decide +kernel) (by decide) (by decide +kernel)
  have D4 : DefAt s₁.heap "_law_names" (fnS pw 11) ["_law_script", "_law_plots_here"] (fnB pw 11) := defAt_of KX T.g (by k_is) (by k_is) (by k_is) rfl rfl rfl rfl (by decide +kernel) (by decide) (by decide +kernel)
  have D5 : DefAt s₁.heap "_law_row" (fnS pw 12) ["_law_cell", "_law_plots_here", "_law_names_here", "_law_size"] (fnB pw 12) := defAt_of KX T.g (by k_is) (by k_is) (by k_is) rfl rfl rfl rfl (by decide +kernel) (by decide) (by decide +kernel)
  have D6 : DefAt s₁.heap "outward" (fnS pw 1) ["plots", "plot"] (fnB pw 1) := defAt_of KX T.g (by k_is) (by k_is) (by k_is) rfl rfl rfl rfl (by decide +kernel) (by decide) (by decide +kernel)
  have D7 : DefAt s₁.heap "laid" (fnS pw 3) ["fact", "name", "plot"] (fnB pw 3) := defAt_of KX T.g (by k_is) (by k_is) (by k_is) rfl rfl rfl rfl (by decide +kernel) (by decide) (by decide +kernel)
  have D8 : DefAt s₁.heap "shared" (fnS pw 4) ["fact", "name", "other"] (fnB pw 4) := defAt_of KX T.g (by k_is) (by k_is) (by k_is) rfl rfl rfl rfl (by decide +kernel) (by decide) (by decide +kernel)
  have D9 : DefAt s₁.heap "given_back" (fnS pw 5) ["plots", "plot", "fact"] (fnB pw 5) := defAt_of KX T.g (by k_is) (by k_is) (by k_is) rfl rfl rfl rfl (by decide +kernel) (by decide) (by decide +kernel)
  have D10 : DefAt s₁.heap "behind" (fnS pw 6) ["plots", "row", "fact"] (fnB pw 6) := defAt_of KX T.g (by k_is) (by k_is) (by k_is) rfl rfl rfl rfl (by decide +kernel) (by decide) (by decide +kernel)
  have D11 : DefAt s₁.heap "_law_outward" (fnS pw 13) ["_law_plots_here", "_law_plot"] (fnB pw 13) := defAt_of KX T.g (by k_is) (by k_is) (by k_is) rfl rfl rfl rfl (by decide +kernel) (by decide) (by decide +kernel)
  have D12 : DefAt s₁.heap "_law_fact" (fnS pw 14) ["_law_cell", "_law_plots_here", "_law_names_here"] (fnB pw 14) := defAt_of KX T.g (by k_is) (by k_is) (by k_is) rfl rfl rfl rfl (by decide +kernel) (by decide) (by decide +kernel)
  have D13 : DefAt s₁.heap "_law_wrong_by" (fnS pw 15) ["_law_plots_here", "_law_row_here", "_law_fact_here"] (fnB pw 15) := defAt_of KX T.g (by k_is) (by k_is) (by k_is) rfl rfl rfl rfl (by decide +kernel) (by decide) (by decide +kernel)
  have D14 : DefAt s₁.heap "_law_kind" (fnS pw 16) ["_law_fact_here"] (fnB pw 16) := defAt_of KX T.g (by k_is) (by k_is) (by k_is) rfl rfl rfl rfl (by decide +kernel) (by decide) (by decide +kernel)
  have D15 : DefAt s₁.heap "_law_behind" (fnS pw 17) ["_law_plots_here", "_law_row_here", "_law_fact_here"] (fnB pw 17) := defAt_of KX T.g (by k_is) (by k_is) (by k_is) rfl rfl rfl rfl (by decide +kernel) (by decide) (by decide +kernel)
  have D16 : DefAt s₁.heap "law" (fnS pw 18) ["_law_script"] (fnB pw 18) := defAt_of KX T.g (by k_is) (by k_is) (by k_is) rfl rfl rfl rfl (by decide +kernel) (by decide) (by decide +kernel)
  have B : Bui s₁.heap := ⟨bname_of KX T.g T.b T.builtins (by k_is) (by decide +kernel) (by decide +kernel), bname_of KX T.g T.b T.builtins (by k_is) (by decide +kernel) (by decide +kernel), bname_of KX T.g T.b T.builtins (by k_is) (by decide +kernel) (by decide +kernel),
    bname_of KX T.g T.b T.builtins (by k_is) (by decide +kernel) (by decide +kernel), bname_of KX T.g T.b T.builtins (by k_is) (by decide +kernel) (by decide +kernel), bname_of KX T.g T.b T.builtins (by k_is) (by decide +kernel) (by decide +kernel),
    bname_of KX T.g T.b T.builtins (by k_is) (by decide +kernel) (by decide +kernel), bname_of KX T.g T.b T.builtins (by k_is) (by decide +kernel) (by decide +kernel)⟩
  have bs : Base pw s₁.heap s₁.heap := base_of T (by decide +kernel) rfl
  obtain ⟨m1, h1, e1⟩ := at_ok (w := w) B D1
  obtain ⟨m2, h2, e2⟩ := called_ok (w := w) B D2
  obtain ⟨m3, h3, e3⟩ := plots_ok B D3 h1 e1 h2 e2
  obtain ⟨m4, h4, e4⟩ := names_ok B D4 h1 e1 h2 e2
  obtain ⟨m5, h5, e5⟩ := row_ok (w := w) B D5
  obtain ⟨m6, h6, e6⟩ := outward_ok (w := w) B D6
  obtain ⟨m7, h7, e7⟩ := laid_ok (w := w) B D7
  obtain ⟨m8, h8, e8⟩ := shared_ok (w := w) B D8
  obtain ⟨m9, h9, e9⟩ := given_ok B D9 h6 e6
  obtain ⟨m10, h10, e10⟩ := behind_ok B D10 h7 e7 h8 e8 h9 e9
  obtain ⟨m11, h11, e11⟩ := lawout_ok (w := w) B D11
  obtain ⟨m12, h12, e12⟩ := fact_ok (w := w) B D12
  obtain ⟨m13, h13, e13⟩ := lawwrong_ok (w := w) B D13
  obtain ⟨m14, h14, e14⟩ := kind_ok (w := w) B D14
  obtain ⟨m15, h15, e15⟩ := lawbehind_ok B D15 h11 e11
  obtain ⟨m16, h16, e16⟩ := law_ok B D16 h1 e1 h3 e3 h4 e4 h5 e5 h12 e12 h14 e14 h10 e10 h15 e15 h13 e13
  clear D1 D2 D3 D4 D5 D6 D7 D8 D9 D10 D11 D12 D13 D14 D15 D16
  wrow_args hpre hlay hrd hwl hlo
  rename_i l _ _ _ _ _ _ _ _ _ _ _ _ hwell _ _ _ hlen _
  refine law_run h16 (e16 l) bs T.g hmg' hwell (by omega) (by decide) fun s' k => ?_
  obtain ⟨h', tk, rfl, gr⟩ := k
  exact GoodW.toG ⟨.inl ⟨.bool true, .bool true, [], rfl, fun _ => rfl, .bool true, by wrow_post, fun _ => ⟨.nil, fun _ q => nomatch q⟩⟩, gr, rfl, hg⟩
