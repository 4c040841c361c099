import PyProof.Rows.All
import Wide.All
import OpenK.AllK
import Wide.FinOn
import PyProof.Claim2
import PyProof.Rows.Many
import PyProof.PassesOwn
import PyProof.Rows.Top
import PyProof.Lay0
import PyProof.StrBlockL
import PyProof.StrCalls6
import PyProof.StrBlock
import PyProof.P3Statements
import PyProof.SliceMore
import PyProof.Rows.Tup
import PyProof.Rows.RotEnd
import PyProof.Rows.RuleB_mod
import PyProof.Rows.RuleB_floordiv
import PyProof.Rows.RuleC_int
import PyProof.P3Eq
import PyProof.StrOps
import PyProof.PureInt
import PyProof.Rows.TupSub
import PyProof.Rows.StrTemp
import PyProof.SliceStr2
import PyProof.Rows.EqDataRows
import PyProof.Rows.TupMore
import PyProof.ListIndexNeg
import PyProof.Rows.IntRules
import PyProof.Rows.StrJoin2
import PyProof.Rows.StrPins
import PyProof.CallRoads3
import PyProof.MeetsStr2
import PyProof.StrReplace2
import PyProof.FitsReplace
import PyProof.Calls
import PyProof.ListCopy
import PyProof.TypeOfCall
import PyProof.Rows.Lst
import PyProof.Rows.Exc
import PyProof.Rules2
import PyProof.Rules3
import PyProof.ListOps
import PyProof.ForAppend
import PyProof.ExcFactsAll.ValueError
import PyProof.RulesTry
import PyProof.ExcAttrAll.ValueError
import PyProof.ForAny
import PyProof.TupleIter
import PyProof.StrLoop
import PyProof.RangeIter
import PyProof.RangeFor
import PyProof.EnumMake
import PyProof.CompObj
import PyProof.WalksMore
import PyProof.ZipIter
import PyProof.RulesMatch
import PyProof.StrLawsReplace
import PyProof.StrLawsTight
import PyProof.StrLawsChain
import PyProof.Rows.StrItems
import PyProof.PureStr
import PyProof.Rows.StrBoot
import PyProof.Rows.TupIn
import PyProof.StrLawsIn
import PySem.Challenge.RW_sx_r001_1
open PySem
set_option maxRecDepth 10000
namespace Mine

theorem ofS_inj (a b : String) : (Str.ofString a = Str.ofString b) = (a = b) := by
  apply propext
  constructor
  · intro h
    rw [Str.ofString_eq_toList, Str.ofString_eq_toList] at h
    injection h with h
    have h2 : a.toList.map Char.toNat = b.toList.map Char.toNat := by
      have := congrArg Array.toList h
      simpa using this
    have inj : ∀ (l m : List Char), l.map Char.toNat = m.map Char.toNat → l = m := by
      intro l
      induction l with
      | nil => intro m hm; cases m with
        | nil => rfl
        | cons c m => simp at hm
      | cons c l ih => intro m hm; cases m with
        | nil => simp at hm
        | cons e m =>
          simp only [List.map_cons, List.cons.injEq] at hm
          have : c = e := Char.toNat_inj.mp hm.1
          rw [this, ih m hm.2]
    have := inj _ _ h2
    have h3 : String.ofList a.toList = String.ofList b.toList := by rw [this]
    simpa using h3
  · intro h; rw [h]


theorem ok_iff (x : Str) : PyData.strOk x = true ↔ ∀ c ∈ x.cps.toList, c < 0x110000 := by
  unfold PyData.strOk
  rw [← Array.all_toList, List.all_eq_true]
  simp
theorem ok_ofString (s : String) : PyData.strOk (Str.ofString s) = true := by
  rw [ok_iff, Str.ofString_eq_toList]
  intro c hc
  simp only [List.mem_map] at hc
  obtain ⟨k, _, rfl⟩ := hc
  have h := k.valid
  simp only [UInt32.isValidChar, Nat.isValidChar] at h
  show k.val.toNat < _
  omega
theorem ok_append {x y : Str} (hx : PyData.strOk x = true) (hy : PyData.strOk y = true) : PyData.strOk (x ++ y) = true := by
  rw [ok_iff] at *
  intro c hc
  have : c ∈ x.cps.toList ++ y.cps.toList := by
    have e : (x ++ y).cps = x.cps ++ y.cps := rfl
    rw [e] at hc; simpa using hc
  rcases List.mem_append.mp this with h | h
  · exact hx c h
  · exact hy c h
theorem ok_sub {x y : Str} (hx : PyData.strOk x = true) (h : ∀ c ∈ y.cps.toList, c ∈ x.cps.toList) : PyData.strOk y = true := by
  rw [ok_iff] at *
  exact fun c hc => hx c (h c hc)
theorem ok_join {z : Str} (hz : PyData.strOk z = true) : ∀ {ys : List Str}, (∀ y ∈ ys, PyData.strOk y = true) → PyData.strOk (Str.join z ys) = true
  | [], _ => by rw [ok_iff]; intro c hc; simp [Str.join, Str.empty] at hc
  | [x], h => h x (List.mem_singleton.mpr rfl)
  | x :: y :: r, h => by
    show PyData.strOk (x ++ z ++ Str.join z (y :: r)) = true
    exact ok_append (ok_append (h x (List.mem_cons_self ..)) hz) (ok_join hz fun a ha => h a (List.mem_cons_of_mem _ ha))

theorem lookup_app {α : Type} (x : Str) (p : Str × α) : ∀ l : List (Str × α), (l ++ [p]).lookup x = match l.lookup x with | some v => some v | none => if x == p.1 then some p.2 else none
  | [] => by
    obtain ⟨k, v⟩ := p
    simp only [List.nil_append, List.lookup_cons, List.lookup_nil]
    cases x == k <;> rfl
  | (k, v) :: r => by
    simp only [List.cons_append, List.lookup_cons]
    cases x == k with
    | true => rfl
    | false => exact lookup_app x p r

end Mine

open PySem PyProof.Rows
set_option maxRecDepth 10000
namespace Mine

/-- the heap grows; what stood stands, but for the slots -/
noncomputable def Ext (h h' : Heap) : Prop := ∀ b o, h.get? b = some o → h'.get? b = some o ∨ ((∃ es ep, o.data = .dict es ep) ∧ ∃ sl, h'.get? b = some { o with slots := sl })

theorem Ext.sl {h h' : Heap} (x : Ext h h') (b : Addr) (o : Obj) (e : h.get? b = .some o) : ∃ sl, h'.get? b = .some { o with slots := sl } :=
  (x b o e).elim (fun q => ⟨o.slots, q⟩) fun q => q.2
theorem Ext.exact {h h' : Heap} (x : Ext h h') {b : Addr} {o : Obj} (e : h.get? b = .some o) (hd : ∀ es ep, o.data ≠ .dict es ep) : h'.get? b = .some o :=
  (x b o e).elim id fun ⟨⟨es, ep, q⟩, _⟩ => absurd q (hd es ep)
theorem Ext.refl (h : Heap) : Ext h h := fun _ _ e => .inl e
theorem Ext.trans {h₁ h₂ h₃ : Heap} (x : Ext h₁ h₂) (y : Ext h₂ h₃) : Ext h₁ h₃ := fun b o e => by
  rcases x b o e with e₁ | ⟨hd, sl, e₁⟩
  · exact y b o e₁
  · obtain ⟨sl', e₂⟩ := y.sl b _ e₁
    exact .inr ⟨hd, sl', e₂⟩
theorem Ext.on {h h₁ h₂ : Heap} (x : Ext h h₁) (k : ∀ b o o', h.get? b = .some o → h₁.get? b = .some o' → h₂.get? b = .some o') : Ext h h₂ := fun b o e =>
  (x b o e).elim (fun q => .inl (k b o o e q)) fun ⟨hd, sl, q⟩ => .inr ⟨hd, sl, k b o _ e q⟩
theorem Ext.of_keeps {h h' : Heap} (k : ∀ b o, h.get? b = some o → h'.get? b = some o) : Ext h h' := fun b o e => .inl (k b o e)
theorem Ext.push (h : Heap) (o : Obj) : Ext h (h.push o) := .of_keeps fun _ _ e => Heap.get?_push_of_some o e
theorem Ext.ns {h h' : Heap} (x : Ext h h') {a m} (n : h.Ns a m) : h'.Ns a m :=
  let ⟨o, es, ep, ho, hd, r⟩ := n; let ⟨_, e⟩ := x.sl a o ho; ⟨_, es, ep, e, hd, r⟩
theorem Ext.some {h h' : Heap} (x : Ext h h') {a} (n : (h.get? a).isSome) : (h'.get? a).isSome := by
  cases hq : h.get? a with
  | none => rw [hq] at n; cases n
  | some o => obtain ⟨_, e⟩ := x.sl a o hq; rw [e]; rfl

mutual
/-- v stands for the datum d in the heap h, at addresses off O -/
noncomputable def Rep (h : Heap) (O : List Addr) (tk : Nat) : PyData → Value → Prop
  | .none, v => v = .none
  | .bool b, v => v = .bool b
  | .int i, v => ∃ t, v = .int i t
  | .str x, v => ∃ t, v = .str x t ∧ 0 < t ∧ t < tk ∧ PyData.strOk x = true
  | .list ds, v => ∃ a o vs n, v = .ref a ∧ a ∉ O ∧ h.get? a = some o ∧ o.cls = .type "list" ∧ o.dict = o.dict ∧ o.data = .seq vs n ∧ Reps h O tk ds vs.toList
  | .tuple ds, v => ∃ a o vs n, v = .ref a ∧ a ∉ O ∧ h.get? a = some o ∧ o.cls = .type "tuple" ∧ o.dict = o.dict ∧ o.data = .seq vs n ∧ Reps h O tk ds vs.toList
  | .dict _, _ => False
noncomputable def Reps (h : Heap) (O : List Addr) (tk : Nat) : List PyData → List Value → Prop
  | [], vs => vs = []
  | d :: ds, vs => ∃ v r, vs = v :: r ∧ Rep h O tk d v ∧ Reps h O tk ds r
end

/-- what a change of heap and fence must keep for Rep -/
noncomputable def Carry (h : Heap) (O : List Addr) (h' : Heap) (O' : List Addr) : Prop :=
  ∀ b o, b ∉ O → h.get? b = some o → b ∉ O' ∧ ∃ sl, h'.get? b = some { o with slots := sl }

mutual
theorem Rep.carry {h h' : Heap} {O O' : List Addr} {tk tk' : Nat} (c : Carry h O h' O') (ht : tk ≤ tk') : ∀ {d : PyData} {v : Value}, Rep h O tk d v → Rep h' O' tk' d v
  | .none, _, r => r
  | .bool _, _, r => r
  | .int _, _, r => r
  | .str _, _, ⟨t, h1, h2, h3, h4⟩ => ⟨t, h1, h2, Nat.lt_of_lt_of_le h3 ht, h4⟩
  | .list ds, _, r => by
    obtain ⟨a, o, vs, n, h1, h2, h3, h4, h5, h6, h7⟩ := r
    obtain ⟨k1, sl, k2⟩ := c a o h2 h3
    exact ⟨a, _, vs, n, h1, k1, k2, h4, h5, h6, Reps.carry c ht h7⟩
  | .tuple ds, _, r => by
    obtain ⟨a, o, vs, n, h1, h2, h3, h4, h5, h6, h7⟩ := r
    obtain ⟨k1, sl, k2⟩ := c a o h2 h3
    exact ⟨a, _, vs, n, h1, k1, k2, h4, h5, h6, Reps.carry c ht h7⟩
  | .dict _, _, r => r
theorem Reps.carry {h h' : Heap} {O O' : List Addr} {tk tk' : Nat} (c : Carry h O h' O') (ht : tk ≤ tk') : ∀ {ds : List PyData} {vs : List Value}, Reps h O tk ds vs → Reps h' O' tk' ds vs
  | [], _, r => r
  | _ :: _, _, r => by
    obtain ⟨v, w, h1, h2, h3⟩ := r
    exact ⟨v, w, h1, Rep.carry c ht h2, Reps.carry c ht h3⟩
end

theorem Carry.ext {h h' : Heap} (x : Ext h h') (O : List Addr) : Carry h O h' O := fun b o hb e => ⟨hb, x.sl b o e⟩
theorem Carry.less {h : Heap} {O O' : List Addr} (k : ∀ a ∈ O', a ∈ O ∨ h.get? a = none) : Carry h O h O' := fun b o hb e =>
  ⟨fun m => (k b m).elim hb (fun q => by rw [q] at e; cases e), o.slots, e⟩
theorem Carry.trans {h₁ h₂ h₃ : Heap} {O₁ O₂ O₃ : List Addr} (x : Carry h₁ O₁ h₂ O₂) (y : Carry h₂ O₂ h₃ O₃) : Carry h₁ O₁ h₃ O₃ := fun b o hb e =>
  let ⟨p, _, q⟩ := x b o hb e; let ⟨p', sl, q'⟩ := y b _ p q; ⟨p', sl, q'⟩
theorem Carry.update {h : Heap} {O : List Addr} {a : Addr} (ha : a ∈ O) (f : Obj → Obj) : Carry h O (h.update a f) O := fun b o hb e =>
  ⟨hb, o.slots, (Heap.get?_update_other h f (fun q => hb (by rw [← q]; exact ha))).trans e⟩
theorem Carry.same {h h' : Heap} {O : List Addr} {a : Addr} (ha : a ∈ O) (s : Heap.SameBut a h h') : Carry h O h' O := fun b o hb e =>
  ⟨hb, o.slots, (s.2 b (fun q => hb (by rw [q]; exact ha))).trans e⟩

theorem Reps.length {h : Heap} {O : List Addr} {tk : Nat} : ∀ {ds : List PyData} {vs : List Value}, Reps h O tk ds vs → vs.length = ds.length
  | [], _, r => by rw [show _ = [] from r]; rfl
  | _ :: _, _, r => by
    obtain ⟨v, w, h1, h2, h3⟩ := r
    rw [h1, List.length_cons, List.length_cons, Reps.length h3]
theorem Reps.get {h : Heap} {O : List Addr} {tk : Nat} : ∀ {ds : List PyData} {vs : List Value}, Reps h O tk ds vs → ∀ {k : Nat} {d}, ds[k]? = some d → ∃ v, vs[k]? = some v ∧ Rep h O tk d v
  | [], _, _, _, _, e => by simp at e
  | _ :: ds, _, r, k, d, e => by
    obtain ⟨v, w, h1, h2, h3⟩ := r
    subst h1
    cases k with
    | zero => simp at e; subst e; exact ⟨v, rfl, h2⟩
    | succ k => simpa using Reps.get h3 (by simpa using e)
theorem Reps.append {h : Heap} {O : List Addr} {tk : Nat} : ∀ {ds es : List PyData} {vs ws : List Value}, Reps h O tk ds vs → Reps h O tk es ws → Reps h O tk (ds ++ es) (vs ++ ws)
  | [], _, _, _, r, q => by rw [show _ = [] from r]; exact q
  | _ :: ds, es, _, ws, r, q => by
    obtain ⟨v, w, h1, h2, h3⟩ := r
    subst h1
    exact ⟨v, w ++ ws, rfl, h2, Reps.append h3 q⟩
theorem Reps.drop {h : Heap} {O : List Addr} {tk : Nat} : ∀ {ds : List PyData} {vs : List Value}, Reps h O tk ds vs → ∀ k, Reps h O tk (ds.drop k) (vs.drop k)
  | [], _, r, k => by rw [show _ = [] from r]; simp [Reps]
  | _ :: ds, _, r, k => by
    obtain ⟨v, w, h1, h2, h3⟩ := r
    subst h1
    cases k with
    | zero => exact ⟨v, w, rfl, h2, h3⟩
    | succ k => simpa using Reps.drop h3 k
theorem Reps.take {h : Heap} {O : List Addr} {tk : Nat} : ∀ {ds : List PyData} {vs : List Value}, Reps h O tk ds vs → ∀ k, Reps h O tk (ds.take k) (vs.take k)
  | [], _, r, k => by rw [show _ = [] from r]; simp [Reps]
  | _ :: ds, _, r, k => by
    obtain ⟨v, w, h1, h2, h3⟩ := r
    subst h1
    cases k with
    | zero => simp [Reps]
    | succ k => exact ⟨v, w.take k, rfl, h2, Reps.take h3 k⟩

mutual
theorem Rep.reads {h : Heap} {O : List Addr} {tk : Nat} : ∀ {d : PyData} {v : Value}, Rep h O tk d v → ∃ as, Reads h v d as
  | .none, _, r => ⟨[], by rw [show _ = Value.none from r]; exact .none⟩
  | .bool b, _, r => ⟨[], by rw [show _ = Value.bool b from r]; exact .bool b⟩
  | .int i, _, ⟨t, r⟩ => ⟨[], by rw [r]; exact .int i t⟩
  | .str x, _, ⟨t, r, _⟩ => ⟨[], by rw [r]; exact .str x t⟩
  | .list ds, _, r => by
    obtain ⟨a, o, vs, n, h1, h2, h3, h4, h5, h6, h7⟩ := r
    obtain ⟨as, q⟩ := Reps.reads h7
    rw [h1]
    exact ⟨_, .list h3 h4 h6 q⟩
  | .tuple ds, _, r => by
    obtain ⟨a, o, vs, n, h1, h2, h3, h4, h5, h6, h7⟩ := r
    obtain ⟨as, q⟩ := Reps.reads h7
    rw [h1]
    exact ⟨_, .tuple h3 h4 h6 q⟩
  | .dict _, _, r => r.elim
theorem Reps.reads {h : Heap} {O : List Addr} {tk : Nat} : ∀ {ds : List PyData} {vs : List Value}, Reps h O tk ds vs → ∃ as, ReadsAll h vs ds as
  | [], _, r => ⟨[], by rw [show _ = [] from r]; exact .nil⟩
  | d :: ds, _, r => by
    obtain ⟨v, w, h1, h2, h3⟩ := r
    obtain ⟨as, q⟩ := Rep.reads h2
    obtain ⟨bs, q'⟩ := Reps.reads h3
    rw [h1]
    exact ⟨_, .cons q q'⟩
end

mutual
theorem Rep.lay {h : Heap} {O : List Addr} {tk : Nat} : ∀ {d : PyData} {v : Value}, Rep h O tk d v → d.canLay0 = true
  | .none, _, _ => rfl
  | .bool _, _, _ => rfl
  | .int _, _, _ => rfl
  | .str _, _, ⟨_, _, _, _, r⟩ => r
  | .list ds, _, r => by
    obtain ⟨a, o, vs, n, h1, h2, h3, h4, h5, h6, h7⟩ := r
    exact Reps.lay h7
  | .tuple ds, _, r => by
    obtain ⟨a, o, vs, n, h1, h2, h3, h4, h5, h6, h7⟩ := r
    exact Reps.lay h7
  | .dict _, _, r => r.elim
theorem Reps.lay {h : Heap} {O : List Addr} {tk : Nat} : ∀ {ds : List PyData} {vs : List Value}, Reps h O tk ds vs → PyData.canLayAll0 ds = true
  | [], _, _ => rfl
  | d :: ds, _, r => by
    obtain ⟨v, w, h1, h2, h3⟩ := r
    rw [PyData.canLayAll0, Rep.lay h2, Reps.lay h3]; rfl
end

end Mine

open PySem
set_option maxRecDepth 10000
namespace Mine

/-- a local's worth: a datum that stands, or a list that this frame alone holds -/
inductive LV where
  | dat (d : PyData)
  | own (ds : List PyData)
abbrev PE := Str → Option LV
noncomputable def upd (ρ : PE) (x : Str) (v : LV) : PE := fun y => if y = x then some v else ρ y

inductive Out (α : Type) where
  | ok (a : α)
  | exc
  | bad
noncomputable def Out.bind {α β : Type} : Out α → (α → Out β) → Out β
  | .ok a, f => f a
  | .exc, _ => .exc
  | .bad, _ => .bad

structure PC where
  G : Str → Option PyData
  F : Str → Option (List PyData → Out PyData)
  fuel : Nat

inductive Fl where
  | next | brk | cont
  | ret (d : PyData)

abbrev LIM : Nat := 16777216

noncomputable def frz (xs : List Str) (ρ : PE) : PE := fun y =>
  match ρ y with
  | some (.own ds) => if y ∈ xs then some (.dat (.list ds)) else some (.own ds)
  | o => o

noncomputable def pcmp (op : CmpOp) (a b : PyData) : Out PyData :=
  match op with
  | .Eq => match a, b with
    | .str x, .str y => .ok (.bool (x == y))
    | .int x, .int y => .ok (.bool (x == y))
    | a, b => if a.depth ≤ 16 ∧ b.depth ≤ 16 then .ok (.bool (PyData.eqv a b)) else .bad
  | .NotEq => match a, b with
    | .str x, .str y => .ok (.bool (x != y))
    | .int x, .int y => .ok (.bool (x != y))
    | a, b => if a.depth ≤ 16 ∧ b.depth ≤ 16 then .ok (.bool (!PyData.eqv a b)) else .bad
  | .Lt => match a, b with
    | .int x, .int y => .ok (.bool (decide (x < y)))
    | _, _ => .bad
  | .Gt => match a, b with
    | .int x, .int y => .ok (.bool (decide (y < x)))
    | _, _ => .bad
  | .GtE => match a, b with
    | .int x, .int y => .ok (.bool (decide (y ≤ x)))
    | _, _ => .bad
  | .In => match a, b with
    | .str y, .str x => .ok (.bool (!(Builtin.Str.occurrences x y 0 x.length 1).isEmpty))
    | _, _ => .bad
  | .NotIn => match a, b with
    | .str y, .str x => .ok (.bool (Builtin.Str.occurrences x y 0 x.length 1).isEmpty)
    | _, _ => .bad
  | _ => .bad

noncomputable def pbin (op : Operator) (a b : PyData) : Out PyData :=
  match op with
  | .Add => match a, b with
    | .str x, .str y => if x.length + y.length ≤ LIM then .ok (.str (x ++ y)) else .bad
    | .int x, .int y => .ok (.int (x + y))
    | .list x, .list y => if x.length + y.length ≤ LIM then .ok (.list (x ++ y)) else .bad
    | _, _ => .bad
  | .Sub => match a, b with
    | .int x, .int y => .ok (.int (x - y))
    | _, _ => .bad
  | .Mod => match a, b with
    | .int x, .int y => if y = 0 then .bad else .ok (.int (x.fmod y))
    | _, _ => .bad
  | .FloorDiv => match a, b with
    | .int x, .int y => if 0 < y ∧ y < 1000 ∧ 0 ≤ x ∧ x < 1000000 then .ok (.int (x.fdiv y)) else .bad
    | _, _ => .bad
  | _ => .bad

noncomputable def pitem (a : PyData) (i : Int) : Out PyData :=
  if -1000000000 < i ∧ i < 1000000000 then
    match a with
    | .str x => match (seqIndex? i x.length).bind (x.cps[·]?) with
      | some c => .ok (.str ⟨#[c]⟩)
      | none => .bad
    | .list ds => match (seqIndex? i ds.length).bind (ds[·]?) with
      | some d => .ok d
      | none => .bad
    | .tuple ds => match (seqIndex? i ds.length).bind (ds[·]?) with
      | some d => .ok d
      | none => .bad
    | _ => .bad
  else .bad

noncomputable def cutL {α : Type} (l : List α) (lo hi : Option Int) : List α :=
  (l.drop (lo.elim 0 (clipAt l.length))).take (hi.elim l.length (clipAt l.length) - lo.elim 0 (clipAt l.length))

noncomputable def pcut (a : PyData) (lo hi : Option Int) : Out PyData :=
  match a with
  | .str x => if x.length ≤ LIM then .ok (.str ⟨(cutL x.cps.toList lo hi).toArray⟩) else .bad
  | .list ds => if ds.length ≤ LIM then .ok (.list (cutL ds lo hi)) else .bad
  | .tuple ds => match lo, hi with
    | none, some k => if ds.length ≤ LIM ∧ 0 ≤ k ∧ k ≤ ds.length then .ok (.tuple (ds.take k.toNat)) else .bad
    | _, _ => .bad
  | _ => .bad

noncomputable def strs? : List PyData → Option (List Str)
  | [] => some []
  | .str x :: r => (strs? r).map (x :: ·)
  | _ :: _ => none

inductive MM where
  | join | split | rstrip
noncomputable def MM.nm : MM → Str
  | .join => Str.ofString "join"
  | .split => Str.ofString "split"
  | .rstrip => Str.ofString "rstrip"

noncomputable def pmeth (m : MM) (x : Str) (d : PyData) : Out PyData :=
  match m with
  | .join => (match d with
    | .list ds => (match strs? ds with
      | some ys => if (ys.map (·.length)).sum + ys.length * x.length ≤ LIM then .ok (.str (Str.join x ys)) else .bad
      | none => .bad)
    | _ => .bad)
  | .split => (match d with
    | .str y => if 0 < y.length ∧ x.length ≤ 1000000 then .ok (.list ((Txt.split x y).map .str)) else .bad
    | _ => .bad)
  | .rstrip => (match d with
    | .str y => if x.length ≤ LIM then .ok (.str (Txt.rstripChars x y)) else .bad
    | _ => .bad)

noncomputable def prepl (x y z : Str) : Out PyData :=
  if (y == z) = false ∧ x.length + (x.length + 1) * z.length ≤ LIM then .ok (.str (Txt.replace x y z)) else .bad

noncomputable def plen (d : PyData) : Out PyData :=
  match d with
  | .str x => if x.length ≤ LIM then .ok (.int x.length) else .bad
  | .list ds => if ds.length ≤ LIM then .ok (.int ds.length) else .bad
  | .tuple ds => if ds.length ≤ LIM then .ok (.int ds.length) else .bad
  | _ => .bad
noncomputable def plist (d : PyData) : Out PyData :=
  match d with
  | .list ds => if ds.length ≤ LIM then .ok (.list ds) else .bad
  | _ => .bad

noncomputable def isListD : PyData → Bool
  | .list _ => true
  | _ => false
noncomputable def isStrD : PyData → Bool
  | .str _ => true
  | _ => false
noncomputable def isType (d : PyData) (t : Str) : Out PyData :=
  if t = Str.ofString "list" then .ok (.bool (isListD d))
  else if t = Str.ofString "str" then .ok (.bool (isStrD d))
  else .bad

noncomputable def pstr? : PyData → Out Str
  | .str x => .ok x
  | _ => .bad
noncomputable def pint? : PyData → Out Int
  | .int i => .ok i
  | _ => .bad
noncomputable def pbool? : PyData → Out Bool
  | .bool b => .ok b
  | _ => .bad

noncomputable def noStar : List Expr → Bool
  | [] => true
  | .Starred _ _ :: _ => false
  | _ :: r => noStar r
noncomputable def noComp : Expr → Bool
  | .ListComp .. => false
  | .SetComp .. => false
  | .DictComp .. => false
  | _ => true
noncomputable def notSet : Expr → Bool
  | .Set _ _ _ => false
  | _ => true
noncomputable def notSuper : Expr → Bool
  | .Call (.Name _ _) [] [] _ => false
  | _ => true

/-- the expressions that are walked, bare of places -/
inductive QE where
  | con (d : PyData)
  | var (x : String)
  | tab (x : String)
  | bin (op : Operator) (l r : QE)
  | neg (e : QE)
  | not (e : QE)
  | bo (op : BoolOp) (es : QE)
  | cmp (op : CmpOp) (l r : QE)
  | ty (e : QE) (t : String)
  | tup (es : QE)
  | lst (es : QE)
  | sub (v i : QE)
  | cut (v lo hi : QE)
  | meth (m : MM) (o e : QE)
  | replC (o y : QE) (c : Str)
  | replV (o : QE) (c : Str) (z : String)
  | replD (o y : QE) (z₁ z₂ : String)
  | call (f : String) (es : QE)
  | len (e : QE)
  | lenO (x : String)
  | lis (e : QE)
  | nil
  | cons (e r : QE)
  | no
  | opt (e : QE)

noncomputable def isNil : QE → Bool
  | .nil => true
  | _ => false
noncomputable def stp : BoolOp → Bool → Bool
  | .And, b => !b
  | .Or, b => b

noncomputable def pvar : Option LV → Out PyData
  | some (.dat d) => .ok d
  | _ => .bad
noncomputable def ptab : Option PyData → Out PyData
  | some d => .ok d
  | none => .bad
noncomputable def plenO : Option LV → Out PyData
  | some (.dat d) => plen d
  | some (.own ds) => if ds.length ≤ LIM then .ok (.int ds.length) else .bad
  | none => .bad
noncomputable def pfn : Option (List PyData → Out PyData) → Out (List PyData) → Out PyData
  | some g, o => o.bind g
  | none, _ => .bad
noncomputable def pstrV : Option LV → Out Str
  | some (.dat (.str x)) => .ok x
  | _ => .bad

mutual
noncomputable def pev (C : PC) (ρ : PE) : QE → Out PyData
  | .con d => .ok d
  | .var x => pvar (ρ (Str.ofString x))
  | .tab x => ptab (C.G (Str.ofString x))
  | .bin op l r => (pev C ρ l).bind fun a => (pev C ρ r).bind fun b => pbin op a b
  | .neg e => (pev C ρ e).bind fun a => (pint? a).bind fun i => .ok (.int (-i))
  | .not e => (pev C ρ e).bind fun a => (pbool? a).bind fun b => .ok (.bool (!b))
  | .bo op es => pbo C ρ op es
  | .cmp op l r => (pev C ρ l).bind fun a => (pev C ρ r).bind fun b => pcmp op a b
  | .ty e t => (pev C ρ e).bind fun d => isType d (Str.ofString t)
  | .tup es => (pevs C ρ es).bind fun ds => if ds.length ≤ LIM then .ok (.tuple ds) else .bad
  | .lst es => (pevs C ρ es).bind fun ds => if ds.length ≤ LIM then .ok (.list ds) else .bad
  | .sub v i => (pev C ρ v).bind fun a => (pev C ρ i).bind fun b => (pint? b).bind fun i => pitem a i
  | .cut v lo hi => (pev C ρ v).bind fun a => (peo C ρ lo).bind fun i => (peo C ρ hi).bind fun j => pcut a i j
  | .meth m o e => (pev C ρ o).bind fun a => (pstr? a).bind fun x => (pev C ρ e).bind fun d => pmeth m x d
  | .replC o y c => (pev C ρ o).bind fun a => (pstr? a).bind fun x => (pev C ρ y).bind fun b => (pstr? b).bind fun yy => prepl x yy c
  | .replV o c z => (pstrV (ρ (Str.ofString z))).bind fun zz => (pev C ρ o).bind fun a => (pstr? a).bind fun x => prepl x c zz
  | .replD o y z₁ z₂ => (pstrV (ρ (Str.ofString z₁))).bind fun s1 => (pstrV (ρ (Str.ofString z₂))).bind fun s2 =>
    if 0 < s1.length ∧ 0 < s2.length ∧ s1.length + s2.length ≤ LIM then
      (pev C ρ o).bind fun a => (pstr? a).bind fun x => (pev C ρ y).bind fun b => (pstr? b).bind fun yy => prepl x yy (s1 ++ s2)
    else .bad
  | .call f es => pfn (C.F (Str.ofString f)) (pevs C ρ es)
  | .len e => (pev C ρ e).bind plen
  | .lenO x => plenO (ρ (Str.ofString x))
  | .lis e => (pev C ρ e).bind plist
  | .nil => .bad
  | .cons _ _ => .bad
  | .no => .bad
  | .opt _ => .bad
noncomputable def pevs (C : PC) (ρ : PE) : QE → Out (List PyData)
  | .nil => .ok []
  | .cons e r => (pev C ρ e).bind fun d => (pevs C ρ r).bind fun ds => .ok (d :: ds)
  | _ => .bad
noncomputable def peo (C : PC) (ρ : PE) : QE → Out (Option Int)
  | .no => .ok none
  | .opt e => (pev C ρ e).bind fun d => (pint? d).bind fun i => .ok (some i)
  | _ => .bad
noncomputable def pbo (C : PC) (ρ : PE) (op : BoolOp) : QE → Out PyData
  | .cons e r => (pev C ρ e).bind fun d => (pbool? d).bind fun b => if (stp op b || isNil r) = true then .ok (.bool b) else pbo C ρ op r
  | _ => .bad
end

noncomputable def ptest (C : PC) (ρ : PE) (e : QE) : Out Bool := (pev C ρ e).bind pbool?

noncomputable def setT (ρ : PE) : List String → PyData → Option PE
  | [x], d => some (upd ρ (Str.ofString x) (.dat d))
  | [x, y], .tuple [a, b] => some (upd (upd ρ (Str.ofString x) (.dat a)) (Str.ofString y) (.dat b))
  | _, _ => none

noncomputable def pwhile (T : PE → Out Bool) (B : PE → Out (Fl × PE)) : Nat → PE → Out (Fl × PE)
  | 0, _ => .bad
  | n + 1, ρ => (T ρ).bind fun b =>
    if b then (B ρ).bind fun r =>
      match r.1 with
      | .next => pwhile T B n r.2
      | .cont => pwhile T B n r.2
      | .brk => .ok (.next, r.2)
      | .ret d => .ok (.ret d, r.2)
    else .ok (.next, ρ)

noncomputable def pfor (t : List String) (B : PE → Out (Fl × PE)) : List PyData → PE → Out (Fl × PE)
  | [], ρ => .ok (.next, ρ)
  | d :: ds, ρ =>
    match setT ρ t d with
    | some ρ₁ => (B ρ₁).bind fun r =>
      match r.1 with
      | .next => pfor t B ds r.2
      | .cont => pfor t B ds r.2
      | .brk => .ok (.next, r.2)
      | .ret d => .ok (.ret d, r.2)
    | none => .bad

noncomputable def signsD (x : Str) : List PyData := x.cps.toList.map fun c => .str ⟨#[c]⟩
noncomputable def rangeD (n : Int) : List PyData := (List.range n.toNat).map fun (k : Nat) => .int (k : Int)
noncomputable def zipD : List PyData → List PyData → List PyData
  | a :: as, b :: bs => .tuple [a, b] :: zipD as bs
  | _, _ => []

noncomputable def pzip : List PyData → Out (List PyData)
  | [.list ds, .tuple es] => if ds.length ≤ es.length then .ok (zipD ds es) else .bad
  | _ => .bad

noncomputable def piter (d : PyData) : Out (List PyData) :=
  match d with
  | .list ds => .ok ds
  | .tuple ds => .ok ds
  | .str x => .ok (signsD x)
  | _ => .bad

noncomputable def prange (d : PyData) : Out (List PyData) := (pint? d).bind fun n => if 0 ≤ n ∧ n ≤ 1000000 then .ok (rangeD n) else .bad

/-- the statements that are walked -/
inductive QS where
  | ret (e : QE)
  | cont
  | asg (x : String) (e : QE)
  | own (x : String) (es : QE)
  | pop (x l : String)
  | cop (x : String) (e : QE) (y : String)
  | app (l : String) (e : QE)
  | ite (t : QE) (b o : QS)
  | wh (t : QE) (b : QS)
  | frn (x : String) (e : QE) (b : QS)
  | rng (x : String) (e : QE) (b : QS)
  | zip (x y : String) (es : QE) (b : QS)
  | raise
  | trye (x : String) (e : QE) (y : String) (c : PyData)
  | frz (x : String) (s : QS)
  | nil
  | seq (s r : QS)

noncomputable def frz1 (ρ : PE) (x : Str) : Option LV → PE
  | some (.own ds) => upd ρ x (.dat (.list ds))
  | _ => ρ
noncomputable def ppop (ρ : PE) (x l : Str) : Option LV → Out (Fl × PE)
  | some (.own ds) => (match ds.getLast? with
    | some d => if ds.length ≤ LIM then .ok (.next, upd (upd ρ l (.own ds.dropLast)) x (.dat d)) else .bad
    | none => .bad)
  | _ => .bad
noncomputable def isShortL : PyData → Bool
  | .list es => decide (es.length ≤ LIM)
  | _ => false
noncomputable def pcop (ρ : PE) (x : Str) : PyData → Out (Fl × PE)
  | .list ds => if ds.length ≤ LIM ∧ ds.all isShortL = true then .ok (.next, upd ρ x (.dat (.list ds))) else .bad
  | _ => .bad
noncomputable def papp (ρ : PE) (l : Str) (o : Out PyData) : Option LV → Out (Fl × PE)
  | some (.own ds) => o.bind fun d => if ds.length < LIM then .ok (.next, upd ρ l (.own (ds ++ [d]))) else .bad
  | _ => .bad
noncomputable def ptry (ρ : PE) (x y : Str) (c : PyData) : Out PyData → Out (Fl × PE)
  | .ok d => .ok (.next, upd ρ x (.dat d))
  | .exc => .ok (.next, upd ρ y (.dat c))
  | .bad => .bad
noncomputable def pseqk (f : PE → Out (Fl × PE)) (q : Fl × PE) : Out (Fl × PE) :=
  match q.1 with
  | .next => f q.2
  | .brk => .ok (.brk, q.2)
  | .cont => .ok (.cont, q.2)
  | .ret d => .ok (.ret d, q.2)

noncomputable def pex (C : PC) : QS → PE → Out (Fl × PE)
  | .ret e, ρ => (pev C ρ e).bind fun d => .ok (.ret d, ρ)
  | .cont, ρ => .ok (.cont, ρ)
  | .asg x e, ρ => (pev C ρ e).bind fun d => .ok (.next, upd ρ (Str.ofString x) (.dat d))
  | .own x es, ρ => (pevs C ρ es).bind fun ds => if ds.length ≤ LIM then .ok (.next, upd ρ (Str.ofString x) (.own ds)) else .bad
  | .pop x l, ρ => ppop ρ (Str.ofString x) (Str.ofString l) (ρ (Str.ofString l))
  | .cop x e _, ρ => (pev C ρ e).bind fun d => pcop ρ (Str.ofString x) d
  | .app l e, ρ => papp ρ (Str.ofString l) (pev C ρ e) (ρ (Str.ofString l))
  | .ite t b o, ρ => (ptest C ρ t).bind fun c => if c then pex C b ρ else pex C o ρ
  | .wh t b, ρ => pwhile (fun ρ => ptest C ρ t) (pex C b) C.fuel ρ
  | .frn x e b, ρ => ((pev C ρ e).bind piter).bind fun ds => pfor [x] (pex C b) ds ρ
  | .rng x e b, ρ => ((pev C ρ e).bind prange).bind fun ds => pfor [x] (pex C b) ds ρ
  | .zip x y es b, ρ => (pevs C ρ es).bind fun ds => (pzip ds).bind fun ds => pfor [x, y] (pex C b) ds ρ
  | .raise, _ => .exc
  | .trye x e y c, ρ => ptry ρ (Str.ofString x) (Str.ofString y) c (pev C ρ e)
  | .frz x s, ρ => pex C s (frz1 ρ (Str.ofString x) (ρ (Str.ofString x)))
  | .nil, ρ => .ok (.next, ρ)
  | .seq s r, ρ => (pex C s ρ).bind (pseqk (pex C r))

/-- a def's call: its parameters bound, its body run -/
noncomputable def pcall (C : PC) (ps : List Str) (body : QS) (ds : List PyData) : Out PyData :=
  if ps.length = ds.length then
    (pex C body (fun y => ((ps.zip ds).reverse.lookup y).map .dat)).bind fun r =>
      match r.1 with
      | .ret d => .ok d
      | .next => .ok .none
      | _ => .bad
  else .bad

/-- what stands at a place of the program's tree -/
noncomputable def nm? : Expr → Option Str
  | .Name x _ => some x
  | _ => none
noncomputable def cst? : Expr → Option Str
  | .Constant c _ _ => (match c with
    | .str s => if PyData.strOk s = true then some s else none
    | _ => none)
  | _ => none
noncomputable def okC : PyData → Const → Bool
  | .none, .none => true
  | .bool b, .bool c => b == c
  | .int b, .int c => b == c
  | .str b, .str c => b == c && PyData.strOk c
  | _, _ => false
noncomputable def meth? : Expr → Option (Expr × Str × List Expr)
  | .Call f as kws cp => (match f with
    | .Attribute o n ap => if kws.isEmpty && notSuper o && (ap.endLine == cp.line) then some (o, n, as) else none
    | _ => none)
  | _ => none
noncomputable def call? : Expr → Option (Str × List Expr)
  | .Call f as kws _ => (match f with
    | .Name x _ => if kws.isEmpty then some (x, as) else none
    | _ => none)
  | _ => none
noncomputable def one? : List Expr → Option Expr
  | [e] => some e
  | _ => none
noncomputable def two? : List Expr → Option (Expr × Expr)
  | [e, e'] => some (e, e')
  | _ => none
noncomputable def isL (sc : Scope) (x : String) : Bool := sc.names.lookup (Str.ofString x) == some .local
noncomputable def isG (sc : Scope) (x : String) : Bool := sc.names.lookup (Str.ofString x) == some .globalImplicit
noncomputable def isN (e : Expr) (x : String) : Bool := nm? e == some (Str.ofString x)
noncomputable def isSum (e : Expr) (x y : String) : Bool := match e with
  | .BinOp a op b _ => op == .Add && isN a x && isN b y
  | _ => false

/-- what holds of what stands there -/
noncomputable def oB {α : Type} (o : Option α) (f : α → Bool) : Bool := match o with
  | some x => f x
  | none => false
noncomputable def o2B {α β : Type} (o : Option (α × β)) (f : α → β → Bool) : Bool := match o with
  | some x => f x.1 x.2
  | none => false
noncomputable def o3B {α β γ : Type} (o : Option (α × β × γ)) (f : α → β → γ → Bool) : Bool := match o with
  | some x => f x.1 x.2.1 x.2.2
  | none => false
noncomputable def bin? : Expr → Option (Expr × Operator × Expr)
  | .BinOp l op r _ => some (l, op, r)
  | _ => none
noncomputable def un? : Expr → Option (UnaryOp × Expr)
  | .UnaryOp op x _ => some (op, x)
  | _ => none
noncomputable def bo? : Expr → Option (BoolOp × List Expr)
  | .BoolOp op es _ => some (op, es)
  | _ => none
noncomputable def cmp? : Expr → Option (Expr × List CmpOp × List Expr)
  | .Compare l ops rs _ => some (l, ops, rs)
  | _ => none
noncomputable def con? : Expr → Option Const
  | .Constant c _ _ => some c
  | _ => none
noncomputable def tup? : Expr → Option (List Expr)
  | .Tuple es _ _ => some es
  | _ => none
noncomputable def lst? : Expr → Option (List Expr)
  | .List es _ => some es
  | _ => none
noncomputable def sub? : Expr → Option (Expr × Expr)
  | .Subscript v s _ => some (v, s)
  | _ => none
noncomputable def sli? : Expr → Option (Option Expr × Option Expr × Option Expr)
  | .Slice lo hi st _ => some (lo, hi, st)
  | _ => none

mutual
noncomputable def okE (sc : Scope) : QE → Expr → Bool
  | .con d, e => oB (con? e) fun c => okC d c
  | .var x, e => isN e x
  | .tab x, e => isN e x && isG sc x
  | .bin op l r, e => o3B (bin? e) fun l' op' r' => op == op' && okE sc l l' && okE sc r r'
  | .neg x, e => o2B (un? e) fun op x' => op == .USub && okE sc x x'
  | .not x, e => o2B (un? e) fun op x' => op == .Not && okE sc x x'
  | .bo op es, e => o2B (bo? e) fun op' es' => op == op' && okL sc es es'
  | .cmp op l r, e => o3B (cmp? e) fun l' ops rs => ops == [op] && okE sc l l' && oB (one? rs) fun r' => okE sc r r'
  | .ty x t, e => o3B (cmp? e) fun l ops rs => ops == [.Is] && isG sc t && isG sc "type" && (oB (one? rs) fun r => isN r t) && o2B (call? l) fun f as => f == Str.ofString "type" && oB (one? as) fun a => okE sc x a
  | .tup es, e => oB (tup? e) fun es' => okL sc es es'
  | .lst es, e => oB (lst? e) fun es' => okL sc es es'
  | .sub v i, e => o2B (sub? e) fun v' s => okE sc v v' && okE sc i s
  | .cut v lo hi, e => o2B (sub? e) fun v' s => okE sc v v' && o3B (sli? s) fun lo' hi' st => st.isNone && okO sc lo lo' && okO sc hi hi'
  | .meth m o x, e => o3B (meth? e) fun o' n as => n == m.nm && okE sc o o' && oB (one? as) fun a => okE sc x a
  | .replC o y c, e => o3B (meth? e) fun o' n as => n == Str.ofString "replace" && okE sc o o' && o2B (two? as) fun y' z' => okE sc y y' && cst? z' == some c
  | .replV o c z, e => o3B (meth? e) fun o' n as => n == Str.ofString "replace" && okE sc o o' && o2B (two? as) fun y' z' => cst? y' == some c && isN z' z
  | .replD o y z₁ z₂, e => o3B (meth? e) fun o' n as => n == Str.ofString "replace" && okE sc o o' && o2B (two? as) fun y' z' => okE sc y y' && isSum z' z₁ z₂
  | .call f es, e => o2B (call? e) fun f' as => f' == Str.ofString f && isG sc f && okL sc es as
  | .len x, e => o2B (call? e) fun f' as => f' == Str.ofString "len" && isG sc "len" && oB (one? as) fun a => okE sc x a
  | .lenO x, e => o2B (call? e) fun f' as => f' == Str.ofString "len" && isG sc "len" && oB (one? as) fun a => isN a x
  | .lis x, e => o2B (call? e) fun f' as => f' == Str.ofString "list" && isG sc "list" && oB (one? as) fun a => okE sc x a
  | .nil, _ => false
  | .cons _ _, _ => false
  | .no, _ => false
  | .opt _, _ => false
noncomputable def okL (sc : Scope) : QE → List Expr → Bool
  | .nil, es => es.isEmpty
  | .cons q r, es => (match es with
    | e :: es => okE sc q e && okL sc r es
    | [] => false)
  | _, _ => false
noncomputable def okO (sc : Scope) : QE → Option Expr → Bool
  | .no, o => o.isNone
  | .opt q, o => oB o fun e => okE sc q e
  | _, _ => false
end

noncomputable def nmp? : Expr → Option (Str × Pos)
  | .Name x p => some (x, p)
  | _ => none
noncomputable def asg? : Stmt → Option (Str × Pos × Expr)
  | .Assign ts e _ => ((one? ts).bind nmp?).map fun q => (q.1, q.2, e)
  | _ => none
noncomputable def gen? : List Comprehension → Option (Expr × Expr)
  | [g] => if g.ifs.isEmpty && g.is_async == 0 then some (g.target, g.iter) else none
  | _ => none
noncomputable def cop? : Expr → Option ((Expr × Expr × Expr) × Scope × Pos)
  | .ListComp elt gens sc lp => (gen? gens).map fun q => ((elt, q.1, q.2), sc, lp)
  | _ => none
noncomputable def st1? : List Stmt → Option Stmt
  | [s] => some s
  | _ => none
noncomputable def hnd? : List ExceptHandler → Option (Expr × Stmt)
  | [h] => (match h with
    | .ExceptHandler ty nm b _ => ty.bind fun v => if nm.isNone then (st1? b).map fun s => (v, s) else none)
  | _ => none
noncomputable def ret? : Stmt → Option Expr
  | .Return o _ => o
  | _ => none
noncomputable def isCont : Stmt → Bool
  | .Continue _ => true
  | _ => false
noncomputable def exp? : Stmt → Option Expr
  | .Expr e _ => some e
  | _ => none
noncomputable def if? : Stmt → Option (Expr × List Stmt × List Stmt)
  | .If t b o _ => some (t, b, o)
  | _ => none
noncomputable def wh? : Stmt → Option (Expr × List Stmt)
  | .While t b o _ => if o.isEmpty then some (t, b) else none
  | _ => none
noncomputable def for? : Stmt → Option (Expr × Expr × List Stmt)
  | .For t it b o _ => if o.isEmpty then some (t, it, b) else none
  | _ => none
noncomputable def rse? : Stmt → Option Expr
  | .Raise ex c _ => if c.isNone then ex else none
  | _ => none
noncomputable def try? : Stmt → Option (Stmt × Expr × Stmt)
  | .Try b hs o f _ => if o.isEmpty && f.isEmpty then (st1? b).bind fun s => (hnd? hs).map fun q => (s, q.1, q.2) else none
  | _ => none

mutual
noncomputable def okS (sc : Scope) : QS → Stmt → Bool
  | .ret q, st => oB (ret? st) fun e => okE sc q e
  | .cont, st => isCont st
  | .asg x q, st => o3B (asg? st) fun y _ e => y == Str.ofString x && isL sc x && okE sc q e
  | .own x q, st => o3B (asg? st) fun y _ e => y == Str.ofString x && isL sc x && oB (lst? e) fun es => okL sc q es
  | .pop x l, st => o3B (asg? st) fun y _ e => y == Str.ofString x && isL sc x && o3B (meth? e) fun o n as => isN o l && n == Str.ofString "pop" && as.isEmpty
  | .cop x q y, st => o3B (asg? st) fun x' px e => x' == Str.ofString x && isL sc x && o3B (cop? e) fun g s' lp =>
      (o2B (call? g.1) fun f as => f == Str.ofString "list" && oB (one? as) fun a => isN a y) && isN g.2.1 y && okE sc q g.2.2 && decide (px.line = lp.line)
        && decide (s'.names = [(Str.ofString ".0", .local), (Str.ofString y, .local), (Str.ofString "list", .globalImplicit)]) && decide (s'.kind = .function) && decide (y ≠ "list") && decide (y ≠ "__debug__") && decide (x ≠ y) && decide (x ≠ ".0")
  | .app l q, st => oB (exp? st) fun e => o3B (meth? e) fun o n as => isN o l && n == Str.ofString "append" && oB (one? as) fun a => okE sc q a
  | .ite q b o, st => o3B (if? st) fun t b' o' => okE sc q t && okB sc b b' && okB sc o o'
  | .wh q b, st => o2B (wh? st) fun t b' => okE sc q t && okB sc b b'
  | .frn x q b, st => o3B (for? st) fun t it b' => isN t x && isL sc x && okE sc q it && okB sc b b'
  | .rng x q b, st => o3B (for? st) fun t it b' => isN t x && isL sc x && isG sc "range" && (o2B (call? it) fun f as => f == Str.ofString "range" && oB (one? as) fun a => okE sc q a) && okB sc b b'
  | .zip x y q b, st => o3B (for? st) fun t it b' => isL sc x && isL sc y && isG sc "zip" && (o2B ((tup? t).bind two?) fun u v => isN u x && isN v y) && (o2B (call? it) fun f as => f == Str.ofString "zip" && okL sc q as) && okB sc b b'
  | .raise, st => oB (rse? st) fun e => isG sc "ValueError" && o2B (call? e) fun f as => f == Str.ofString "ValueError" && oB (one? as) fun a => (cst? a).isSome
  | .trye x q y c, st => o3B (try? st) fun s v h => isG sc "ValueError" && isN v "ValueError" && (o3B (asg? s) fun x' _ e => x' == Str.ofString x && isL sc x && okE sc q e)
      && o3B (asg? h) fun y' _ e => y' == Str.ofString y && isL sc y && oB (con? e) fun k => okC c k
  | .frz _ s, st => okS sc s st
  | .nil, _ => false
  | .seq _ _, _ => false
noncomputable def okB (sc : Scope) : QS → List Stmt → Bool
  | .nil, sts => sts.isEmpty
  | .seq s r, sts => (match sts with
    | st :: sts => okS sc s st && okB sc r sts
    | [] => false)
  | _, _ => false
end
end Mine

open PySem PyProof.Rows
set_option maxRecDepth 10000
namespace Mine

/-- what is kept of the plain objects while an exception flies -/
noncomputable def Kp (h h' : Heap) : Prop := ∀ b o, h.get? b = some o → (∀ vs, o.data ≠ .fields vs) → ∃ sl, h'.get? b = some { o with slots := sl }
theorem Kp.of_ext {h h' : Heap} (x : Ext h h') : Kp h h' := fun b o e _ => x.sl b o e
theorem Kp.trans {h₁ h₂ h₃ : Heap} (x : Kp h₁ h₂) (y : Kp h₂ h₃) : Kp h₁ h₃ := fun b o e hn =>
  let ⟨_, e₁⟩ := x b o e hn; let ⟨sl, e₂⟩ := y b _ e₁ hn; ⟨sl, e₂⟩

/-- a ValueError on its way: it is new, its record is whole -/
noncomputable def ExcSt (base : Heap) (l : List Env) (hr : Heap) (e : Addr) (h : Heap) : Prop :=
  base.StaysIn h ∧ base.get? e = none ∧ h.FunFrames base l ∧ Kp hr h ∧
  ∃ oe vs, h.get? e = some oe ∧ oe.cls = .type "ValueError" ∧ oe.data = .fields vs ∧
    (vs[1]? = some .none ∨ ∃ T oT ts, vs[1]? = some (.ref T) ∧ base.get? T = none ∧ T ≠ e ∧ h.get? T = some oT ∧ oT.data = .fields ts ∧ ts[3]? = some .none)

theorem ExcSt.from {base : Heap} {l : List Env} {h₀ h₁ : Heap} {e : Addr} {h : Heap} (k : Kp h₀ h₁) (x : ExcSt base l h₁ e h) : ExcSt base l h₀ e h :=
  ⟨x.1, x.2.1, x.2.2.1, k.trans x.2.2.2.1, x.2.2.2.2⟩

theorem funFrames_ext {h h' base : Heap} {l : List Env} (x : Ext h h') (f : h.FunFrames base l) : h'.FunFrames base l :=
  f.of_keeps fun b o e _ => let ⟨_, e'⟩ := x.sl b o e; ⟨_, e', rfl⟩

/-- the frames below: functions' frames, each a dict, none of the base's -/
noncomputable def FFr (h base : Heap) (l : List Env) : Prop := h.FunFrames base l ∧ ∀ a ∈ l.filterMap (·.frame), ∃ o es ep, h.get? a = some o ∧ o.data = .dict es ep
theorem FFr.ext {h h' base : Heap} {l : List Env} (x : Ext h h') (f : FFr h base l) : FFr h' base l :=
  ⟨funFrames_ext x f.1, fun a ha => let ⟨o, es, ep, h1, h2⟩ := f.2 a ha; let ⟨_, h3⟩ := x.sl a o h1; ⟨_, es, ep, h3, h2⟩⟩

/-- the state grows by a step: heap, tokens -/
structure Grow (base : Heap) (s : Shared) (h' : Heap) (tk' : Nat) : Prop where
  ext : Ext s.heap h'
  bs : base.StaysIn h'
  tk : s.toks ≤ tk'

theorem Grow.refl {base : Heap} {s : Shared} (b : base.StaysIn s.heap) : Grow base s s.heap s.toks := ⟨.refl _, b, Nat.le_refl _⟩
theorem Grow.trans {base : Heap} {s : Shared} {h₁ h₂ : Heap} {t₁ t₂ : Nat} (x : Grow base s h₁ t₁) (y : Grow base { s with heap := h₁, toks := t₁ } h₂ t₂) : Grow base s h₂ t₂ :=
  ⟨x.ext.trans y.ext, y.bs, Nat.le_trans x.tk y.tk⟩

/-- what the outcome of an expression asks of the posts -/
noncomputable def Post {α β : Type} (R : Heap → Nat → α → β → Prop) (base : Heap) (l : List Env) (s : Shared) (o : Out α) (Q : β → Shared → Prop) (E : Value → Shared → Prop) : Prop :=
  match o with
  | .ok d => ∀ v h' tk', Grow base s h' tk' → R h' tk' d v → Q v { s with heap := h', toks := tk' }
  | .exc => ∀ e h' tk', s.toks ≤ tk' → ExcSt base l s.heap e h' → E (.ref e) { s with heap := h', toks := tk' }
  | .bad => False

abbrev PostD (O : List Addr) := Post (fun h tk (d : PyData) (v : Value) => Rep h O tk d v)
abbrev PostL (O : List Addr) := Post (fun h tk (d : List PyData) (v : List Value) => Reps h O tk d v)
abbrev PostB := Post (fun (_ : Heap) (_ : Nat) (d : Bool) (v : Bool) => v = d)
abbrev PostO := Post (fun (_ : Heap) (_ : Nat) (d : Option Int) (v : Value) => match d with | none => v = .none | some i => ∃ t, v = .int i t)

section
variable {α β γ δ : Type} {R : Heap → Nat → α → γ → Prop} {base : Heap} {l : List Env} {s : Shared} {Q : γ → Shared → Prop} {Q' : δ → Shared → Prop} {E : Value → Shared → Prop}

theorem Post.later {o : Out α} {h' : Heap} {tk' : Nat} (g : Grow base s h' tk') (p : Post R base l s o Q E) : Post R base l { s with heap := h', toks := tk' } o Q E := by
  cases o with
  | ok d => exact fun v h'' tk'' g' r => p v h'' tk'' (g.trans g') r
  | exc => exact fun e h'' tk'' ht x => p e h'' tk'' (Nat.le_trans g.tk ht) (x.from (.of_ext g.ext))
  | bad => exact p

theorem Post.bind {R' : Heap → Nat → β → δ → Prop} {o : Out β} {f : β → Out α} (p : Post R base l s (o.bind f) Q E)
    (k : ∀ d v h' tk', o = .ok d → Grow base s h' tk' → R' h' tk' d v → Post R base l { s with heap := h', toks := tk' } (f d) Q E → Q' v { s with heap := h', toks := tk' }) :
    Post R' base l s o Q' E := by
  cases o with
  | ok d => exact fun v h' tk' g r => k d v h' tk' rfl g r (Post.later g p)
  | exc => exact p
  | bad => exact p
end

/-- a list that the frame alone holds -/
noncomputable def OwnAt (h : Heap) (O : List Addr) (tk : Nat) (ds : List PyData) (a : Addr) : Prop :=
  ∃ vs n sl, h.get? a = some ⟨.type "list", none, .seq vs n, sl⟩ ∧ Reps h O tk ds vs.toList

theorem OwnAt.carry {h h' : Heap} {O O' : List Addr} {tk tk' : Nat} {ds : List PyData} {a : Addr} (x : OwnAt h O tk ds a) (c : Carry h O h' O') (ht : tk ≤ tk')
    (ha : ∀ o, h.get? a = some o → ∃ sl, h'.get? a = some { o with slots := sl }) : OwnAt h' O' tk' ds a := by
  obtain ⟨vs, n, sl, h1, h2⟩ := x
  obtain ⟨sl', h1'⟩ := ha _ h1
  exact ⟨vs, n, sl', h1', h2.carry c ht⟩

/-- what is lent out around the frame: addresses that it must not touch, data that must stand -/
structure Lent where
  ad : List Addr
  gh : List (Value × PyData)
  ob : List (Addr × Obj)

/-- the frame's locals, as the pure state says them -/
structure St (base0 base hE : Heap) (O₀ : Lent) (L : Addr) (names : List (Str × NameKind)) (t0 : Nat) (ρ : PE) (s : Shared) (m : Str → Option Value) (O : List Addr) : Prop where
  ns : s.heap.Ns L m
  bs : base.StaysIn s.heap
  ext : Ext hE s.heap
  lo : L ∈ O
  out : ∀ a ∈ O₀.ad, a ∈ O
  gh : ∀ q ∈ O₀.gh, Rep s.heap O s.toks q.2 q.1
  ob : ∀ q ∈ O₀.ob, q.1 ∈ O₀.ad ∧ q.1 ≠ L ∧ s.heap.get? q.1 = some q.2 ∧ ∀ es ep, q.2.data ≠ .dict es ep
  al : ∀ a ∈ O, (s.heap.get? a).isSome ∧ base0.get? a = none
  lb : base.get? L = none
  le : hE.get? L = none
  dat : ∀ x d, ρ x = some (.dat d) → ∃ v, m x = some v ∧ Rep s.heap O s.toks d v
  own : ∀ x ds, ρ x = some (.own ds) → ∃ a, m x = some (.ref a) ∧ a ∈ O ∧ a ≠ L ∧ (a ∉ O₀.ad ∧ hE.get? a = none) ∧ OwnAt s.heap O s.toks ds a
  dis : ∀ x y ds es a, ρ x = some (.own ds) → ρ y = some (.own es) → m x = some (.ref a) → m y = some (.ref a) → x = y
  loc : ∀ x v, ρ x = some v → names.lookup x = some .local
  tk : t0 ≤ s.toks

section
variable {base0 base hE : Heap} {O₀ : Lent} {L : Addr} {names : List (Str × NameKind)} {t0 : Nat} {ρ : PE} {s : Shared} {m : Str → Option Value} {O : List Addr}

theorem St.grow (S : St base0 base hE O₀ L names t0 ρ s m O) {h' : Heap} {tk' : Nat} (g : Grow base s h' tk') : St base0 base hE O₀ L names t0 ρ { s with heap := h', toks := tk' } m O where
  ns := g.ext.ns S.ns
  bs := g.bs
  ext := S.ext.trans g.ext
  lo := S.lo
  out := S.out
  gh := fun q hq => (S.gh q hq).carry (.ext g.ext O) g.tk
  ob := fun q hq => let ⟨k1, k2, k3, k4⟩ := S.ob q hq; ⟨k1, k2, g.ext.exact k3 k4, k4⟩
  al := fun a ha => ⟨g.ext.some (S.al a ha).1, (S.al a ha).2⟩
  lb := S.lb
  le := S.le
  dat := fun x d e => let ⟨v, h1, h2⟩ := S.dat x d e; ⟨v, h1, h2.carry (.ext g.ext O) g.tk⟩
  own := fun x ds e => let ⟨a, h1, h2, h3, h4, h5⟩ := S.own x ds e; ⟨a, h1, h2, h3, h4, h5.carry (.ext g.ext O) g.tk (g.ext.sl a)⟩
  dis := S.dis
  loc := S.loc
  tk := Nat.le_trans S.tk g.tk

/-- an owned list is let stand as a datum -/
theorem St.freeze (S : St base0 base hE O₀ L names t0 ρ s m O) (xs : List Str) : ∃ O', St base0 base hE O₀ L names t0 (frz xs ρ) s m O' ∧ (∀ a ∈ O', a ∈ O) := by
  classical
  -- the addresses of the frozen ones
  let P : Addr → Prop := fun a => ∃ x ds, x ∈ xs ∧ ρ x = some (.own ds) ∧ m x = some (.ref a)
  have hP : ∀ a, P a → a ∈ O ∧ a ≠ L ∧ a ∉ O₀.ad ∧ ∃ ds, OwnAt s.heap O s.toks ds a := by
    rintro a ⟨x, ds, _, h1, h2⟩
    obtain ⟨b, k1, k2, k3, k4, k5⟩ := S.own x ds h1
    rw [h2] at k1
    cases k1
    exact ⟨k2, k3, k4.1, ds, k5⟩
  have hless : Carry s.heap O s.heap (O.filter fun a => decide (¬ P a)) := .less fun a ha => .inl (List.mem_filter.mp ha).1
  refine ⟨O.filter fun a => decide (¬ P a), ⟨S.ns, S.bs, S.ext, ?_, ?_, fun q hq => (S.gh q hq).carry hless (Nat.le_refl _), S.ob, ?_, S.lb, S.le, ?_, ?_, ?_, ?_, S.tk⟩, fun a ha => (List.mem_filter.mp ha).1⟩
  · exact List.mem_filter.mpr ⟨S.lo, decide_eq_true fun p => (hP L p).2.1 rfl⟩
  · exact fun a ha => List.mem_filter.mpr ⟨S.out a ha, decide_eq_true fun p => (hP a p).2.2.1 ha⟩
  · exact fun a ha => S.al a (List.mem_filter.mp ha).1
  · intro x d e
    unfold frz at e
    split at e
    · rename_i ds he
      split at e
      · rename_i hx
        cases e
        obtain ⟨a, k1, k2, k3, k4, vs, n, sl, k5, k6⟩ := S.own x ds he
        refine ⟨_, k1, a, _, vs, n, rfl, ?_, k5, rfl, rfl, rfl, k6.carry hless (Nat.le_refl _)⟩
        intro hm
        have := (List.mem_filter.mp hm).2
        exact (of_decide_eq_true this) ⟨x, ds, hx, he, k1⟩
      · cases e
    · rename_i he
      obtain ⟨v, h1, h2⟩ := S.dat x d e
      exact ⟨v, h1, h2.carry hless (Nat.le_refl _)⟩
  · intro x ds e
    unfold frz at e
    split at e
    · rename_i ds' he
      split at e
      · cases e
      · rename_i hx
        cases e
        obtain ⟨a, k1, k2, k3, k4, k5⟩ := S.own x ds he
        refine ⟨a, k1, List.mem_filter.mpr ⟨k2, decide_eq_true ?_⟩, k3, k4, k5.carry hless (Nat.le_refl _) fun o ho => ⟨o.slots, ho⟩⟩
        rintro ⟨y, es, hy, h1, h2⟩
        have := S.dis x y ds es a he h1 k1 h2
        exact hx (this ▸ hy)
    · rename_i he
      exact absurd e (he ds)
  · intro x y ds es a h1 h2
    have sub : ∀ x ds, frz xs ρ x = some (.own ds) → ρ x = some (.own ds) := by
      intro x ds e
      unfold frz at e
      split at e
      · rename_i ds' he
        split at e
        · cases e
        · cases e; exact he
      · exact e
    exact S.dis x y ds es a (sub x ds h1) (sub y es h2)
  · intro x v e
    unfold frz at e
    split at e
    · rename_i ds' he; exact S.loc x _ he
    · exact S.loc x v e

theorem frz1_eq (ρ : PE) (x : Str) : frz1 ρ x (ρ x) = frz [x] ρ := by
  funext y
  unfold frz1 frz upd
  by_cases hy : y = x
  · subst hy
    cases h : ρ y with
    | none => simp [h]
    | some v => cases v <;> simp [h]
  · cases h : ρ x with
    | none => cases h2 : ρ y with
      | none => simp [h2]
      | some v => cases v <;> simp [h2, hy]
    | some v => cases v <;> simp [hy] <;> (cases h2 : ρ y with
      | none => simp
      | some v => cases v <;> simp)
end
end Mine

open PySem PyProof.Rows
set_option maxRecDepth 10000
namespace Mine

theorem sizeLine_is : sizeLine = LIM := by decide
theorem staysIn_push {base h : Heap} (b : base.StaysIn h) (o : Obj) : base.StaysIn (h.push o) := fun a ob e => Heap.get?_push_of_some o (b a ob e)

section
variable {prog : Program} {w : World} {A : Around} {E : Value → Shared → Prop} {s : Shared} {O : List Addr} {base : Heap} {l : List Env} {Q : Value → Shared → Prop}

theorem Grow.toks (b : base.StaysIn s.heap) (n : Nat) : Grow base s s.heap (s.toks + n) := ⟨.refl _, b, Nat.le_add_right _ _⟩
theorem Grow.push (b : base.StaysIn s.heap) (o : Obj) (n : Nat) : Grow base s (s.heap.push o) (s.toks + n) := ⟨.push _ _, staysIn_push b o, Nat.le_add_right _ _⟩

/-- a new list, a new tuple, as data -/
theorem rep_newList {h : Heap} {tk tk' : Nat} {ds : List PyData} {vs : List Value} {n : Nat} (al : ∀ a ∈ O, (h.get? a).isSome) (r : Reps h O tk ds vs) (ht : tk ≤ tk') :
    Rep (h.push { cls := .type "list", data := .seq vs.toArray n }) O tk' (.list ds) (.ref h.objs.size) := by
  refine ⟨_, _, vs.toArray, n, rfl, fun hm => ?_, Heap.get?_push_size _ rfl, rfl, rfl, rfl, by simpa using r.carry (.ext (.push _ _) O) ht⟩
  have := al _ hm
  rw [Heap.get?_none_of_le (Nat.le_refl _)] at this
  cases this
theorem rep_newTuple {h : Heap} {tk tk' : Nat} {ds : List PyData} {vs : List Value} {n : Nat} (al : ∀ a ∈ O, (h.get? a).isSome) (r : Reps h O tk ds vs) (ht : tk ≤ tk') :
    Rep (h.push { cls := .type "tuple", data := .seq vs.toArray n }) O tk' (.tuple ds) (.ref h.objs.size) := by
  refine ⟨_, _, vs.toArray, n, rfl, fun hm => ?_, Heap.get?_push_size _ rfl, rfl, rfl, rfl, by simpa using r.carry (.ext (.push _ _) O) ht⟩
  have := al _ hm
  rw [Heap.get?_none_of_le (Nat.le_refl _)] at this
  cases this

theorem repStr {h : Heap} {tk : Nat} {x : Str} {t : Nat} (h0 : 0 < t) (h1 : t < tk) (hk : PyData.strOk x = true) : Rep h O tk (.str x) (.str x t) := ⟨t, rfl, h0, h1, hk⟩

theorem post_made_str {x : Str} (b : base.StaysIn s.heap) (h0 : 0 < s.toks) (hk : PyData.strOk x = true) (hx : x.length ≤ sizeLine) (p : PostD O base l s (.ok (.str x)) Q E) : (Made.str x).post Q s :=
  ⟨hx, p _ _ _ (Grow.toks b 1) (repStr h0 (Nat.lt_succ_self _) hk)⟩
theorem post_made_val {d : PyData} {v : Value} (b : base.StaysIn s.heap) (r : Rep s.heap O s.toks d v) (p : PostD O base l s (.ok d) Q E) : (Made.val v).post Q s := p _ _ _ (.refl b) r

theorem list_of_rep {h : Heap} {tk : Nat} {ds : List PyData} {v : Value} (r : Rep h O tk (.list ds) v) : ∃ a items, v = .ref a ∧ h.IsList a items ∧ Reps h O tk ds items.toList := by
  obtain ⟨a, o, vs, n, h1, h2, h3, h4, h5, h6, h7⟩ := r
  exact ⟨a, vs, h1, ⟨o, h3, h4, n, h6⟩, h7⟩
theorem tuple_of_rep {h : Heap} {tk : Nat} {ds : List PyData} {v : Value} (r : Rep h O tk (.tuple ds) v) : ∃ a items, v = .ref a ∧ IsTup h a items ∧ Reps h O tk ds items.toList := by
  obtain ⟨a, o, vs, n, h1, h2, h3, h4, h5, h6, h7⟩ := r
  exact ⟨a, vs, h1, ⟨o, h3, h4, n, h6⟩, h7⟩

theorem pbin_ok {op : Operator} {da db : PyData} {a b : Value} (bs : base.StaysIn s.heap) (al : ∀ a ∈ O, (s.heap.get? a).isSome) (h0 : 0 < s.toks) (ra : Rep s.heap O s.toks da a) (rb : Rep s.heap O s.toks db b)
    (p : PostD O base l s (pbin op da db) Q E) : wpAny (model prog w) A (binaryOp op a b) Q E s := by
  unfold pbin at p
  split at p
  · split at p
    · rename_i x y
      obtain ⟨t, rfl, t1, t2, t3⟩ := ra
      obtain ⟨u, rfl, u1, u2, u3⟩ := rb
      split at p
      · rename_i hle
        refine P.add_str ?_
        split
        · rename_i hz
          have e : x ++ y = y := by
            have : x = Str.empty := Str.ext' (by have := beq_iff_eq.mp hz; simpa [Str.length, Str.empty] using this)
            rw [this, Str.empty_append]
          rw [e] at p
          exact post_made_val bs (repStr u1 u2 u3) p
        · split
          · rename_i hz
            have e : x ++ y = x := by
              have : y = Str.empty := Str.ext' (by have := beq_iff_eq.mp hz; simpa [Str.length, Str.empty] using this)
              rw [this, Str.append_empty]
            rw [e] at p
            exact post_made_val bs (repStr t1 t2 t3) p
          · exact post_made_str bs h0 (ok_append t3 u3) (by rw [Str.length_append, sizeLine_is]; exact hle) p
      · exact p.elim
    · rename_i x y
      obtain ⟨t, rfl⟩ := ra
      obtain ⟨u, rfl⟩ := rb
      exact wpAny_add_int (p _ _ _ (Grow.toks bs 1) ⟨_, rfl⟩)
    · rename_i xs ys
      split at p
      · rename_i hle
        obtain ⟨a, its, rfl, la, ra'⟩ := list_of_rep ra
        obtain ⟨b, its2, rfl, lb, rb'⟩ := list_of_rep rb
        have n1 := ra'.length
        have n2 := rb'.length
        simp only [Array.length_toList] at n1 n2
        obtain ⟨⟨cls, dd, data, sl⟩, ho, hc, n, hd⟩ := id la
        obtain ⟨⟨cls2, dd2, data2, sl2⟩, ho2, hc2, n2', hd2⟩ := id lb
        simp only at hc hd hc2 hd2
        subst hc hd hc2 hd2
        have e : its ++ its2 = (its.toList ++ its2.toList).toArray := by simp
        refine concat_meets ⟨_, ho, rfl⟩ ⟨_, ho2, rfl⟩ noFill_list_add seq_list_add PySem.F.slot_list_add PySem.F.entry_list_add (PySem.F.args_list_add_2 _ _) (list_addW a b its its2 n n2' dd dd2 sl sl2 (by rw [sizeLine_is, n1, n2]; exact hle)) ⟨ho, ho2, ?_⟩
        rw [e]
        exact p _ _ _ ⟨.push _ _, staysIn_push bs _, Nat.le_refl _⟩ (rep_newList al (ra'.append rb') (Nat.le_refl _))
      · exact p.elim
    · exact p.elim
  · split at p
    · rename_i x y
      obtain ⟨t, rfl⟩ := ra
      obtain ⟨u, rfl⟩ := rb
      exact P.sub_int (p _ _ _ (Grow.toks bs 1) ⟨_, rfl⟩)
    · exact p.elim
  · split at p
    · rename_i x y
      obtain ⟨t, rfl⟩ := ra
      obtain ⟨u, rfl⟩ := rb
      split at p
      · exact p.elim
      · rename_i hy
        exact mod_int' hy (p _ _ _ (Grow.toks bs 1) ⟨_, rfl⟩)
    · exact p.elim
  · split at p
    · rename_i x y
      obtain ⟨t, rfl⟩ := ra
      obtain ⟨u, rfl⟩ := rb
      split at p
      · rename_i hy
        exact floordiv_int (by omega) (p _ _ _ (Grow.toks bs 1) ⟨_, rfl⟩) (.inl (PyProof.noPylong_small (by omega)))
      · exact p.elim
    · exact p.elim
  · exact p.elim
end
end Mine

open PySem PyProof.Rows
set_option maxRecDepth 10000
namespace Mine
open Builtin.Str

section
variable {prog : Program} {w : World} {A : Around} {E : Value → Shared → Prop} {s : Shared} {O : List Addr} {base : Heap} {l : List Env} {Q : Value → Shared → Prop}

theorem shaped_of {d : PyData} {v : Value} (r : Rep s.heap O s.toks d v) (h : d.depth ≤ 16) : SeqAt.shaped d = true := by
  unfold SeqAt.shaped
  rw [r.lay, Bool.true_and]
  exact decide_eq_true (by omega)

theorem eqv_ok {da db : PyData} {a b : Value} (ra : Rep s.heap O s.toks da a) (rb : Rep s.heap O s.toks db b) (ha : da.depth ≤ 16) (hb : db.depth ≤ 16) (hu : A.units + 64 < cLine)
    (h : Q (.bool (PyData.eqv da db)) s) : wpAny (model prog w) A (compareOp .Eq a b) Q E s := by
  obtain ⟨_, qa⟩ := ra.reads
  obtain ⟨_, qb⟩ := rb.reads
  exact SeqAt.compareEq_shaped qa qb (shaped_of ra ha) (shaped_of rb hb) hu h
theorem nev_ok {da db : PyData} {a b : Value} (ra : Rep s.heap O s.toks da a) (rb : Rep s.heap O s.toks db b) (ha : da.depth ≤ 16) (hb : db.depth ≤ 16) (hu : A.units + 64 < cLine)
    (h : Q (.bool (!PyData.eqv da db)) s) : wpAny (model prog w) A (compareOp .NotEq a b) Q E s := by
  obtain ⟨_, qa⟩ := ra.reads
  obtain ⟨_, qb⟩ := rb.reads
  exact SeqAt.compareNe_shaped qa qb (shaped_of ra ha) (shaped_of rb hb) hu h

theorem depth_str (x : Str) : (PyData.str x).depth = 0 := by simp [PyData.depth]
theorem depth_int (x : Int) : (PyData.int x).depth = 0 := by simp [PyData.depth]

theorem pcmp_ok {op : CmpOp} {da db : PyData} {a b : Value} (bs : base.StaysIn s.heap) (hu : A.units + 64 < cLine) (ra : Rep s.heap O s.toks da a) (rb : Rep s.heap O s.toks db b)
    (p : PostD O base l s (pcmp op da db) Q E) : wpAny (model prog w) A (compareOp op a b) Q E s := by
  unfold pcmp at p
  split at p
  · split at p
    · exact eqv_ok ra rb (by rw [depth_str]; omega) (by rw [depth_str]; omega) hu (p _ _ _ (.refl bs) rfl)
    · exact eqv_ok ra rb (by rw [depth_int]; omega) (by rw [depth_int]; omega) hu (p _ _ _ (.refl bs) rfl)
    · split at p
      · rename_i hd
        exact eqv_ok ra rb hd.1 hd.2 hu (p _ _ _ (.refl bs) rfl)
      · exact p.elim
  · split at p
    · exact nev_ok ra rb (by rw [depth_str]; omega) (by rw [depth_str]; omega) hu (p _ _ _ (.refl bs) rfl)
    · exact nev_ok ra rb (by rw [depth_int]; omega) (by rw [depth_int]; omega) hu (p _ _ _ (.refl bs) rfl)
    · split at p
      · rename_i hd
        exact nev_ok ra rb hd.1 hd.2 hu (p _ _ _ (.refl bs) rfl)
      · exact p.elim
  · split at p
    · obtain ⟨t, rfl⟩ := ra
      obtain ⟨u, rfl⟩ := rb
      exact PyProof.Rows.lt_int (p _ _ _ (.refl bs) rfl)
    · exact p.elim
  · split at p
    · obtain ⟨t, rfl⟩ := ra
      obtain ⟨u, rfl⟩ := rb
      exact PyProof.Rows.gt_int (p _ _ _ (.refl bs) rfl)
    · exact p.elim
  · split at p
    · obtain ⟨t, rfl⟩ := ra
      obtain ⟨u, rfl⟩ := rb
      exact PyProof.Rows.ge_int (p _ _ _ (.refl bs) rfl)
    · exact p.elim
  · split at p
    · obtain ⟨t, rfl, _⟩ := ra
      obtain ⟨u, rfl, _⟩ := rb
      exact P.in_str (p _ _ _ (.refl bs) rfl)
    · exact p.elim
  · split at p
    · obtain ⟨t, rfl, _⟩ := ra
      obtain ⟨u, rfl, _⟩ := rb
      exact P.notIn_str (by rw [Bool.not_not]; exact p _ _ _ (.refl bs) rfl)
    · exact p.elim
  · exact p.elim

theorem subscripted_plain {slice : Expr} (o i : Value) (h : ∀ lo hi p, slice ≠ .Slice lo hi none p) : subscripted slice false o i = operate [o, i] (getItem o i) := by
  unfold subscripted
  split
  · exact absurd rfl (h _ _ _)
  · rename_i hb; cases hb
  · rfl

theorem seqIndex_lt {i : Int} {n j : Nat} (h : seqIndex? i n = some j) : j < n ∧ (0 ≤ i → j = i.toNat) ∧ (i < 0 → j = (i + n).toNat ∧ -(n : Int) ≤ i) := by
  have h' : (if (decide (0 ≤ (if i < 0 then i + (n : Int) else i)) && decide ((if i < 0 then i + (n : Int) else i) < n)) = true then some (if i < 0 then i + (n : Int) else i).toNat else none) = some j := h
  clear h
  by_cases hi : i < 0
  · rw [if_pos hi] at h'
    by_cases hc : (decide (0 ≤ i + (n : Int)) && decide (i + (n : Int) < n)) = true
    · rw [if_pos hc] at h'
      simp only [Bool.and_eq_true, decide_eq_true_eq] at hc
      injection h' with h'
      subst h'
      exact ⟨by omega, fun h0 => by omega, fun _ => ⟨rfl, by omega⟩⟩
    · rw [if_neg hc] at h'; cases h'
  · rw [if_neg hi] at h'
    by_cases hc : (decide (0 ≤ i) && decide (i < (n : Int))) = true
    · rw [if_pos hc] at h'
      simp only [Bool.and_eq_true, decide_eq_true_eq] at hc
      injection h' with h'
      subst h'
      exact ⟨by omega, fun h0 => rfl, fun h0 => absurd h0 hi⟩
    · rw [if_neg hc] at h'; cases h'

theorem pitem_ok {value slice : Expr} {da : PyData} {a : Value} {i : Int} {t : Tok} (bs : base.StaysIn s.heap) (h0 : 0 < s.toks) (hs : ∀ lo hi p, slice ≠ .Slice lo hi none p) (ra : Rep s.heap O s.toks da a)
    (p : PostD O base l s (pitem da i) Q E) : wpAny (model prog w) A (subscriptTail value slice a (.int i t)) Q E s := by
  unfold pitem at p
  split at p
  · rename_i hi
    split at p
    · rename_i x
      obtain ⟨u, rfl, u1, u2, u3⟩ := ra
      split at p
      · rename_i c hc
        refine tail_any (typeIs_str s x u) F.slot_str_getitem.lookup (P.getItem_str ?_ hc ?_) (subscripted_plain _ _ hs)
        · simp only [Bool.or_eq_false_iff, decide_eq_false_iff_not]
          omega
        · refine p _ _ _ (Grow.toks bs 1) (repStr h0 (Nat.lt_succ_self _) ?_)
          refine ok_sub u3 fun k hk => ?_
          simp only [List.mem_singleton] at hk
          subst hk
          obtain ⟨j, _, hj⟩ := Option.bind_eq_some_iff.mp hc
          exact Array.mem_toList_iff.mpr (Array.mem_of_getElem? hj)
      · exact p.elim
    · rename_i ds
      obtain ⟨b, its, rfl, lb, rs⟩ := list_of_rep ra
      split at p
      · rename_i d hd
        obtain ⟨j, hj, hjd⟩ := Option.bind_eq_some_iff.mp hd
        obtain ⟨v, hv, rv⟩ := rs.get hjd
        have hn := rs.length
        simp only [Array.length_toList] at hn
        obtain ⟨k1, k2, k3⟩ := seqIndex_lt hj
        refine tail_any lb.typeIs slot_list_getitem.lookup ?_ (subscripted_plain _ _ hs)
        rcases Int.lt_or_le i 0 with hneg | hpos
        · obtain ⟨k4, k5⟩ := k3 hneg
          exact wpAny_getItem_list_neg lb hneg (by rw [hn]; exact k5) (by omega) (by rw [hn, ← k4]; simpa using hv) (p _ _ _ (.refl bs) rv)
        · exact wpAny_getItem_list lb hpos (by omega) (by rw [← k2 hpos]; simpa using hv) (p _ _ _ (.refl bs) rv)
      · exact p.elim
    · rename_i ds
      obtain ⟨b, its, rfl, lb, rs⟩ := tuple_of_rep ra
      split at p
      · rename_i d hd
        obtain ⟨j, hj, hjd⟩ := Option.bind_eq_some_iff.mp hd
        obtain ⟨v, hv, rv⟩ := rs.get hjd
        have hn := rs.length
        simp only [Array.length_toList] at hn
        refine tail_any lb.typeIs slot_tuple_getitem.lookup ?_ (subscripted_plain _ _ hs)
        exact getItem_tuple lb (by omega) (by omega) (by rw [hn]; exact hj) (by simpa using hv) (p _ _ _ (.refl bs) rv)
      · exact p.elim
    · exact p.elim
  · exact p.elim

theorem Reps.cut {h : Heap} {tk : Nat} {ds : List PyData} {vs : List Value} (r : Reps h O tk ds vs) (lo hi : Option Int) : Reps h O tk (cutL ds lo hi) (cutL vs lo hi) := by
  unfold cutL
  rw [r.length]
  exact (r.drop _).take _

theorem strSlice_plain (lo hi : Option Int) (n : Nat) : strSliceIndices lo hi 1 n = sliceRange ((lo.elim 0 (clipAt n) : Nat) : Int) ((hi.elim n (clipAt n) : Nat) : Int) 1 := by
  cases lo <;> cases hi <;> simp [strSliceIndices, clipAt_cast]
theorem slicePicked_eq (x : Str) (l u : Option (Int × Tok)) : (slicePicked x l u none).filterMap (x.cps[·]?) = cutL x.cps.toList (l.map (·.1)) (u.map (·.1)) := by
  have hl : x.cps.toList.length = x.length := by simp [Str.length]
  unfold slicePicked cutL
  rw [hl]
  show (strSliceIndices (l.map (·.1)) (u.map (·.1)) 1 x.length).filterMap _ = _
  rw [strSlice_plain, sliceRange_one, pick_run]

theorem slicePart_rep {i : Option Int} {v : Value} (r : match i with | none => v = .none | some i => ∃ t, v = .int i t) : ∃ q : Option (Int × Tok), v = partValue q ∧ q.map (·.1) = i ∧ IsPart v i := by
  cases i with
  | none => exact ⟨none, r, rfl, by rw [r]; exact .none⟩
  | some i => obtain ⟨t, rfl⟩ := r; exact ⟨some (i, t), rfl, rfl, .int i t⟩

theorem subscripted_slice {lo hi : Option Expr} {q : Pos} (o i : Value) : subscripted (.Slice lo hi none q) false o i = operate [i, o] (getItem o i) := rfl

theorem getItem_tuple_upto {t sl : Addr} {items : Array Value} {k : Nat} {u : Tok} {Q : Value → Shared → Prop} (ht : IsTup s.heap t items) (hs : s.heap.IsSliceOf sl .none (.int k u) .none) (hk : k ≤ items.size)
    (hw : k = items.size → Q (.ref t) s)
    (h : Q (.ref s.heap.objs.size) { s with heap := s.heap.push { cls := .type "tuple", data := .seq (items.toList.take k).toArray } })
    (hsz : items.size ≤ sizeLine) : wpAny (model prog w) A (getItem (.ref t) (.ref sl)) Q E s := by
  have hdrop : sizeOk (.seq (items.toList.take k).toArray) := by
    show (items.toList.take k).toArray.size ≤ sizeLine
    rw [List.size_toArray, List.length_take, Array.length_toList]
    omega
  obtain ⟨os, hos, hcs, hds⟩ := id hs
  have hTs : s.TypeIs (.ref sl) "slice" := ⟨os, hos, hcs⟩
  unfold getItem
  try with_reducible refine wpAny_holding ?_
  first | refine wpAny_bind (wpAny_pure ?_) | skip
  refine wpAny_bind (wpAny_sequenceKey ht.typeIs (by decide) ?_)
  refine wpAny_bind (wpAny_callSpecial?_slot (name := Str.ofString "__getitem__") ht.typeIs slot_tuple_getitem
    (wpAny_call_entry slot_tuple_getitem ht.typeIs entry_tuple_getitem ?_ (args_tuple_getitem _ _)))
  show wpAny _ _ (Builtin.Tuple.tupleItemsOf (.ref t) >>= _) _ _ s
  refine wpAny_bind (tupleItemsOf_ ht ?_)
  refine wpAny_bind (wpAny_typeOf hTs ?_)
  rw [if_pos (by decide)]
  have happ : ∀ {R : Int × Int × Nat → Shared → Prop}, R ((0 : Int), 1, k) s → wpAny (model prog w) A.in1 (Builtin.Slice.sliceApplied (.ref sl) (pure (items.size : Int))) R E s := by
    intro R hR
    unfold Builtin.Slice.sliceApplied Builtin.Slice.sliceFields
    refine wpAny_bind (wpAny_bind (wpAny_field hos hds (x := .none) rfl (wpAny_bind (wpAny_field hos hds (x := .int k u) rfl (wpAny_bind (wpAny_field hos hds (x := .none) rfl (wpAny_pure ?_)))))))
    refine wpAny_bind (slicePart_none ?_)
    show wpAny _ _ (if ((1 : Int) == 0) = true then _ else _) _ _ s
    rw [if_neg (by decide)]
    refine wpAny_bind (slicePart_none (wpAny_bind (slicePart_int (wpAny_bind (wpAny_pure ?_)))))
    show wpAny _ _ (match Builtin.Slice.sliceAdjust none (some (k : Int)) 1 (items.size : Int) with | (lo, hi) => pure (lo, (1 : Int), Builtin.Slice.slicePlaces lo hi 1)) _ _ s
    have e1 : Builtin.Slice.sliceAdjust none (some (k : Int)) 1 (items.size : Int) = ((0 : Int), (k : Int)) := by
      unfold Builtin.Slice.sliceAdjust
      have h1 : ¬ ((1 : Int) < 0) := by omega
      have h2 : ¬ ((k : Int) < 0) := by omega
      simp only [h1, h2, if_false]
      congr 1
      omega
    rw [e1]
    show wpAny _ _ (pure ((0 : Int), (1 : Int), Builtin.Slice.slicePlaces (0 : Int) (k : Int) 1)) _ _ s
    have e2 : Builtin.Slice.slicePlaces (0 : Int) (k : Int) 1 = k := by
      unfold Builtin.Slice.slicePlaces
      have h1 : (1 : Int) > 0 := by omega
      simp only [h1, if_true, Int.ediv_one]
      split <;> omega
    rw [e2]
    exact wpAny_pure hR
  refine wpAny_bind (happ ?_)
  show wpAny _ _ (if ((0 : Int) == 0 && (1 : Int) == 1 && k == items.size) = true then _ else _) _ _ s
  by_cases hke : k = items.size
  · rw [if_pos (by rw [hke]; simp)]
    refine wpAny_bind (m := Builtin.Tuple.tupleIsExact (.ref t)) ?_
    unfold Builtin.Tuple.tupleIsExact
    refine wpAny_bind (wpAny_typeOf ht.typeIs ?_)
    refine wpAny_pure ?_
    rw [if_pos (by decide)]
    exact wpAny_bind (wpAny_rule (wpAny_pure ⟨_, rfl, wpAny_pure (hw hke)⟩))
  · rw [if_neg (by simp [hke])]
    have e3 : ((List.range k).filterMap fun (j : Nat) => items[((0 : Int) + (j : Int) * 1).toNat]?).toArray = (items.toList.take k).toArray := by
      have e : (fun (j : Nat) => items[((0 : Int) + (j : Int) * 1).toNat]?) = fun j => items[0 + j]? := by
        funext j
        have : ((0 : Int) + (j : Int) * 1).toNat = 0 + j := by omega
        rw [this]
      rw [e]
      have := pick_run items 0 k
      rw [List.filterMap_map] at this
      have e2 : ((fun x => items[x]?) ∘ fun x => 0 + x) = fun j => items[0 + j]? := rfl
      rw [e2] at this
      rw [this, List.drop_zero]
    rw [e3]
    first
      | exact wpAny_bind (m := Builtin.Tuple.tupleExact _) (wpAny_newObj_type (wpAny_pure ⟨_, rfl, wpAny_pure h⟩) hdrop)
      | exact wpAny_bind (m := Builtin.Tuple.tupleExact _) (wpAny_newObj_type (wpAny_bind (wpAny_pure (wpAny_pure ⟨_, rfl, wpAny_pure h⟩))) hdrop)
      | exact wpAny_bind (wpAny_bind (m := Builtin.Tuple.tupleExact _) (wpAny_newObj_type (wpAny_pure (wpAny_pure ⟨_, rfl, wpAny_pure h⟩)) hdrop))
      | exact wpAny_bind (wpAny_bind (m := Builtin.Tuple.tupleExact _) (wpAny_newObj_type (wpAny_pure ⟨_, rfl, wpAny_pure h⟩) hdrop))
end
end Mine

open PySem PyProof.Rows
set_option maxRecDepth 10000
namespace Mine
open Builtin.Str

theorem clipAt_le (n : Nat) (i : Int) : clipAt n i ≤ n := by
  have := clipAt_cast n i
  omega
theorem cutL_sub {α : Type} (l : List α) (lo hi : Option Int) : (cutL l lo hi).Sublist l := (List.take_sublist _ _).trans (List.drop_sublist _ _)
theorem picked_length (x : Str) (l u : Option (Int × Tok)) : (slicePicked x l u none).length = (cutL x.cps.toList (l.map (·.1)) (u.map (·.1))).length := by
  have hl : x.cps.toList.length = x.length := by simp [Str.length]
  unfold slicePicked cutL
  rw [hl]
  show (strSliceIndices (l.map (·.1)) (u.map (·.1)) 1 x.length).length = _
  rw [strSlice_plain, sliceRange_one, List.length_map, List.length_range, List.length_take, List.length_drop, hl]
  have h1 : (u.map (·.1)).elim x.length (clipAt x.length) ≤ x.length := by
    cases u with
    | none => exact Nat.le_refl _
    | some q => exact clipAt_le _ _
  omega

section
variable {prog : Program} {w : World} {A : Around} {E : Value → Shared → Prop} {s : Shared} {O : List Addr} {base : Heap} {l : List Env} {Q : Value → Shared → Prop}

theorem pcut_ok {value : Expr} {elo ehi : Option Expr} {q : Pos} {da : PyData} {a vl vu : Value} {lo hi : Option Int} (bs : base.StaysIn s.heap) (al : ∀ a ∈ O, (s.heap.get? a).isSome) (h0 : 0 < s.toks)
    (ra : Rep s.heap O s.toks da a)
    (rl : match lo with | none => vl = .none | some i => ∃ t, vl = .int i t) (ru : match hi with | none => vu = .none | some i => ∃ t, vu = .int i t)
    (p : PostD O base l s (pcut da lo hi) Q E) :
    wpAny (model prog w) A (subscriptTail value (.Slice elo ehi none q) a (.ref s.heap.objs.size)) Q E { s with heap := s.heap.push { cls := .type "slice", data := .fields #[vl, vu, .none] } } := by
  obtain ⟨ql, el, e1, pl⟩ := slicePart_rep rl
  obtain ⟨qu, eu, e2, pu⟩ := slicePart_rep ru
  have g : Grow base s (s.heap.push { cls := .type "slice", data := .fields #[vl, vu, .none] }) s.toks := ⟨.push _ _, staysIn_push bs _, Nat.le_refl _⟩
  have al' : ∀ a ∈ O, ((s.heap.push { cls := .type "slice", data := .fields #[vl, vu, .none] }).get? a).isSome := fun a ha => g.ext.some (al a ha)
  have ra' := ra.carry (.ext g.ext O) (Nat.le_refl s.toks)
  have hsl : (s.heap.push { cls := .type "slice", data := .fields #[vl, vu, .none] }).IsSliceOf s.heap.objs.size vl vu .none := Heap.IsSliceOf.new ..
  have p' := Post.later g p
  unfold pcut at p'
  split at p'
  · rename_i x
    split at p'
    · rename_i hlen
      obtain ⟨t, rfl, t1, t2, t3⟩ := ra'
      refine tail_any (typeIs_str _ x t) F.slot_str_getitem.lookup (wpAny_getItem_str_slice (l := ql) (u := qu) (st := none) ?_ rfl ?_) (subscripted_slice _ _)
      · obtain ⟨o, k1, k2, k3⟩ := hsl
        exact ⟨o, k1, k2, by rw [k3, el, eu]; rfl⟩
      · have hcut := slicePicked_eq x ql qu
        rw [e1, e2] at hcut
        unfold sliceMade
        split
        · rename_i hw
          have hlen' := picked_length x ql qu
          rw [e1, e2] at hlen'
          simp only [Bool.and_eq_true, beq_iff_eq] at hw
          have hx : x.cps.toList.length = x.length := by simp [Str.length]
          have hsame : cutL x.cps.toList lo hi = x.cps.toList := (cutL_sub _ _ _).eq_of_length (by rw [← hlen', hw.2, hx])
          rw [hsame] at p'
          exact post_made_val g.bs (repStr t1 t2 t3) p'
        · rw [hcut]
          refine post_made_str g.bs h0 ?_ ?_ p'
          · exact ok_sub t3 fun c hc => (cutL_sub _ _ _).subset (by simpa using hc)
          · show (cutL x.cps.toList lo hi).toArray.size ≤ sizeLine
            have h1 := (cutL_sub x.cps.toList lo hi).length_le
            have hx : x.cps.toList.length = x.length := by simp [Str.length]
            rw [List.size_toArray, sizeLine_is]
            omega
    · exact p'.elim
  · rename_i ds
    split at p'
    · rename_i hlen
      obtain ⟨b, its, rfl, lb, rs⟩ := list_of_rep ra'
      have hn := rs.length
      simp only [Array.length_toList] at hn
      refine tail_any lb.typeIs slot_list_getitem.lookup (wpAny_getItem_list_slice lb hsl pl pu .none (by simp) ?_ (by rw [hn, sizeLine_is]; exact hlen)) (subscripted_slice _ _)
      have e : slicePick its lo hi none = (cutL its.toList lo hi).toArray := by
        rw [slicePick_plain]
        unfold cutL
        rw [Array.length_toList]
      rw [e]
      exact p' _ _ _ ⟨.push _ _, staysIn_push g.bs _, Nat.le_refl _⟩ (rep_newList al' (rs.cut lo hi) (Nat.le_refl _))
    · exact p'.elim
  · rename_i ds
    split at p'
    · rename_i k
      split at p'
      · rename_i hk
        obtain ⟨b, its, rfl, lb, rs⟩ := tuple_of_rep ra'
        have hn := rs.length
        simp only [Array.length_toList] at hn
        obtain ⟨u, hu⟩ := ru
        subst hu
        have hvl : vl = .none := rl
        subst hvl
        have ek : ((k.toNat : Nat) : Int) = k := Int.toNat_of_nonneg hk.2.1
        refine tail_any lb.typeIs slot_tuple_getitem.lookup (getItem_tuple_upto (k := k.toNat) (u := u) lb (by rw [ek]; exact hsl) (by omega) ?_ ?_ (by rw [hn, sizeLine_is]; exact hk.1)) (subscripted_slice _ _)
        · intro hw
          rw [List.take_of_length_le (by omega)] at p'
          exact p' _ _ _ (.refl g.bs) ra'
        · exact p' _ _ _ ⟨.push _ _, staysIn_push g.bs _, Nat.le_refl _⟩ (rep_newTuple al' (by simpa using rs.take k.toNat) (Nat.le_refl _))
      · exact p'.elim
    · exact p'.elim
  · exact p'.elim
end
end Mine

open PySem PyProof.Rows
set_option maxRecDepth 10000
namespace Mine
open Builtin Builtin.Str

theorem strs_of {h : Heap} {O : List Addr} {tk : Nat} : ∀ {ds : List PyData} {vs : List Value} {ys : List Str}, Reps h O tk ds vs → strs? ds = some ys →
    ∃ l : List (Str × Tok), vs = strValues l ∧ l.map (·.1) = ys ∧ ∀ p ∈ l, 0 < p.2 ∧ p.2 < tk ∧ PyData.strOk p.1 = true
  | [], _, ys, r, e => by
    rw [show _ = [] from r]
    simp only [strs?, Option.some.injEq] at e
    exact ⟨[], rfl, e, fun _ h => nomatch h⟩
  | d :: ds, _, ys, r, e => by
    obtain ⟨v, w, h1, h2, h3⟩ := r
    cases d with
    | str x =>
      simp only [strs?, Option.map_eq_some_iff] at e
      obtain ⟨zs, e1, e2⟩ := e
      obtain ⟨l, k1, k2, k3⟩ := strs_of h3 e1
      obtain ⟨t, t1, t2, t3, t4⟩ := h2
      refine ⟨(x, t) :: l, by rw [h1, t1, k1]; rfl, by rw [List.map_cons, k2]; exact e2, fun p hp => ?_⟩
      rcases List.mem_cons.mp hp with rfl | hp
      · exact ⟨t2, t3, t4⟩
      · exact k3 p hp
    | _ => simp [strs?] at e

theorem reps_strsFrom {h : Heap} {O : List Addr} : ∀ (ys : List Str) (n tk : Nat), 0 < n → n + ys.length ≤ tk → (∀ y ∈ ys, PyData.strOk y = true) → Reps h O tk (ys.map .str) (strsFrom n ys)
  | [], _, _, _, _, _ => rfl
  | y :: ys, n, tk, h0, h1, hk => by
    simp only [List.length_cons] at h1
    have e1 : n < tk := by omega
    have e2 : n + 1 + ys.length ≤ tk := by omega
    exact ⟨_, _, rfl, ⟨n, rfl, h0, e1, hk y (List.mem_cons_self ..)⟩, reps_strsFrom ys (n + 1) tk (Nat.succ_pos _) e2 fun z hz => hk z (List.mem_cons_of_mem _ hz)⟩

theorem strSub_mem {x : Str} {i j : Nat} : ∀ c ∈ (strSub x i j).cps.toList, c ∈ x.cps.toList := by
  intro c hc
  rw [StrLaws.strSub_toList] at hc
  exact List.mem_of_mem_drop (List.mem_of_mem_take hc)
theorem parts_ok {x : Str} (hx : PyData.strOk x = true) (cuts : List Nat) (w : Nat) : ∀ y ∈ partsBetween x cuts w, PyData.strOk y = true := by
  intro y hy
  unfold partsBetween at hy
  simp only [List.mem_map] at hy
  obtain ⟨⟨i, j⟩, _, rfl⟩ := hy
  exact ok_sub hx strSub_mem
theorem split_ok' {x y : Str} (hx : PyData.strOk x = true) : ∀ z ∈ Txt.split x y, PyData.strOk z = true := by
  intro z hz
  unfold Txt.split at hz
  split at hz
  · rw [List.mem_singleton.mp hz]; exact hx
  · split at hz
    · rw [List.mem_singleton.mp hz]; exact hx
    · exact parts_ok hx _ _ z hz

section
variable {prog : Program} {w : World} {A : Around} {E : Value → Shared → Prop} {s : Shared} {O : List Addr} {base : Heap} {l : List Env} {Q : Value → Shared → Prop}

theorem join_ok {x : Str} {ds : List PyData} {ys : List Str} {a b : Value} (bs : base.StaysIn s.heap) (h0 : 0 < s.toks) (ra : Rep s.heap O s.toks (.str x) a) (rb : Rep s.heap O s.toks (.list ds) b) (hy : strs? ds = some ys)
    (hle : (ys.map (·.length)).sum + ys.length * x.length ≤ LIM) (p : PostD O base l s (.ok (.str (Str.join x ys))) Q E) : wpAny (model prog w) A (call (.builtin "str.join") [a, b]) Q E s := by
  obtain ⟨t, rfl, t1, t2, t3⟩ := ra
  obtain ⟨D, its, rfl, lD, rs⟩ := list_of_rep rb
  obtain ⟨sl, k1, k2, k3⟩ := strs_of rs hy
  have hok : tooLong ((sl.map (·.1)).toArray.foldl (· + ·.length + x.length) 0) = false := by
    have := joinOk_of (sep := x) (ys := ys) hle
    unfold JoinOk at this
    rw [Bool.not_eq_true'] at this
    rw [k2]; exact this
  have lD' : s.heap.IsList D (strValues sl).toArray := by rw [← k1]; simpa using lD
  have hokj : PyData.strOk (Str.join x ys) = true := ok_join t3 fun z hz => by
    rw [← k2] at hz
    obtain ⟨q, hq, rfl⟩ := List.mem_map.mp hz
    exact (k3 q hq).2.2
  refine call_meets F.slot_str_join (typeIs_str s x t) F.entry_str_join (F.args_str_join_2 _ _) (meets_str_join_list x t D sl hok) ⟨lD', ?_⟩
  have hlen : (Str.join x ys).length ≤ sizeLine := Nat.le_trans (StrLaws.join_length_le x ys) (by rw [sizeLine_is]; exact hle)
  have mk : ∀ (sl' : List (Str × Tok)), sl' = sl → (joinMade x sl').post Q s := by
    intro sl' e
    match sl', e with
    | [], e =>
      subst e
      subst k2
      exact post_made_str bs h0 hokj hlen p
    | [q], e =>
      subst e
      subst k2
      have hq := k3 q (List.mem_singleton.mpr rfl)
      exact post_made_val bs (repStr hq.1 hq.2.1 hq.2.2) p
    | q :: r :: rest, e =>
      have e2 : glued x ((q :: r :: rest).map (·.1)) = Str.join x ys := by rw [StrLaws.glued_eq_join, e, k2]
      show (Made.str (glued x ((q :: r :: rest).map (·.1)))).post Q s
      rw [e2]
      exact post_made_str bs h0 hokj hlen p
  exact mk sl rfl

theorem rstrip_ok {x y : Str} {a b : Value} (bs : base.StaysIn s.heap) (h0 : 0 < s.toks) (ra : Rep s.heap O s.toks (.str x) a) (rb : Rep s.heap O s.toks (.str y) b) (hle : x.length ≤ LIM)
    (p : PostD O base l s (.ok (.str (Txt.rstripChars x y))) Q E) : wpAny (model prog w) A (call (.builtin "str.rstrip") [a, b]) Q E s := by
  obtain ⟨t, rfl, t1, t2, t3⟩ := ra
  obtain ⟨u, rfl, u1, u2, u3⟩ := rb
  refine call_gives F.slot_str_rstrip (typeIs_str _ _ _) F.entry_str_rstrip (F.args_str_rstrip_2 _ _) (gives_str_rstrip_chars x y t u) ?_
  unfold Txt.rstripChars Txt.stripBy at p
  split
  · rename_i hc
    rw [if_pos hc] at p
    exact post_made_val bs (repStr t1 t2 t3) p
  · rename_i hc
    rw [if_neg hc] at p
    refine post_made_str bs h0 ?_ ?_ p
    · exact ok_sub t3 strSub_mem
    · exact Nat.le_trans (strSub_length_le _ _ _) (by rw [sizeLine_is]; exact hle)

theorem parts_len_le (x y : Str) : (partsBetween x (occurrences x y 0 x.length (x.length + 1)) y.length).length ≤ x.length + 2 := by
  rw [length_partsBetween]
  have := StrLaws.occ_length_le x y 0 x.length (x.length + 1)
  omega

theorem split_ok {x y : Str} {a b : Value} (bs : base.StaysIn s.heap) (al : ∀ a ∈ O, (s.heap.get? a).isSome) (h0 : 0 < s.toks) (ra : Rep s.heap O s.toks (.str x) a) (rb : Rep s.heap O s.toks (.str y) b) (hy : 0 < y.length) (hle : x.length ≤ 1000000)
    (p : PostD O base l s (.ok (.list ((Txt.split x y).map .str))) Q E) : wpAny (model prog w) A (call (.builtin "str.split") [a, b]) Q E s := by
  obtain ⟨t, rfl, t1, t2, t3⟩ := ra
  obtain ⟨u, rfl, u1, u2, u3⟩ := rb
  have hy' : (y.length == 0) = false := by rw [beq_eq_false_iff_ne]; omega
  have one : ∀ (e : Txt.split x y = [x]), Q (.ref s.heap.objs.size) { s with heap := s.heap.push { cls := .type "list", data := .seq [Value.str x t].toArray } } := by
    intro e
    rw [e] at p
    exact p _ _ _ ⟨.push _ _, staysIn_push bs _, Nat.le_refl _⟩ (rep_newList al (ds := [.str x]) ⟨_, _, rfl, repStr t1 t2 t3, rfl⟩ (Nat.le_refl _))
  have hL : LIM = 16777216 := rfl
  have hx : x.length ≤ sizeLine := by rw [sizeLine_is]; omega
  cases h1 : (decide (x.length < y.length) || decide (strKind x < strKind y))
  · cases hf : (occurrences x y 0 x.length (x.length + 1)).isEmpty
    · have es : Txt.split x y = partsBetween x (occurrences x y 0 x.length (x.length + 1)) y.length := by
        unfold Txt.split
        rw [if_neg (by rw [h1]; exact Bool.false_ne_true), if_neg (by rw [hf]; exact Bool.false_ne_true)]
      have hn : (partsBetween x (occurrences x y 0 x.length (x.length + 1)) y.length).length ≤ sizeLine := by
        have := parts_len_le x y
        rw [sizeLine_is]; omega
      refine call_meets F.slot_str_split (typeIs_str _ _ _) F.entry_str_split (F.args_str_split_2 _ _) (meets_str_split_sep x y t u h1 hy' hf hx hn) ?_
      rw [es] at p
      refine p _ (s.heap.push _) (s.toks + (partsBetween x (occurrences x y 0 x.length (x.length + 1)) y.length).length) ⟨.push _ _, staysIn_push bs _, Nat.le_add_right _ _⟩ ?_
      exact rep_newList al (reps_strsFrom _ _ _ h0 (Nat.le_refl _) (parts_ok t3 _ _)) (Nat.le_refl _)
    · refine call_meets F.slot_str_split (typeIs_str _ _ _) F.entry_str_split (F.args_str_split_2 _ _) (meets_str_split_not_found x y t u h1 hy' hf) ?_
      exact one (by unfold Txt.split; rw [if_neg (by rw [h1]; exact Bool.false_ne_true), if_pos hf])
  · refine call_meets F.slot_str_split (typeIs_str _ _ _) F.entry_str_split (F.args_str_split_2 _ _) (meets_str_split_cannot_occur x y t u h1) ?_
    exact one (by unfold Txt.split; rw [if_pos h1])

theorem repl_ok {x y z : Str} {t u v : Tok} (bs : base.StaysIn s.heap) (h0 : 0 < s.toks) (ht : 0 < t) (ht' : t < s.toks) (hu : u ≠ 0) (hv : v ≠ 0) (huv : u ≠ v) (kx : PyData.strOk x = true) (kz : PyData.strOk z = true)
    (p : PostD O base l s (prepl x y z) Q E) : wpAny (model prog w) A (call (.builtin "str.replace") [.str x t, .str y u, .str z v]) Q E s := by
  unfold prepl at p
  split at p
  · rename_i hc
    obtain ⟨hyz, hb⟩ := hc
    have e : (2 : Nat) ^ 24 = 16777216 := by decide
    have hL : LIM = 16777216 := rfl
    have hl : tooLong (x.length + (occurrences x y 0 x.length (x.length + 1)).length * z.length) = false := by
      have h1 := StrLaws.occ_length_le x y 0 x.length (x.length + 1)
      have h2 : (occurrences x y 0 x.length (x.length + 1)).length * z.length ≤ (x.length + 1) * z.length := Nat.mul_le_mul_right _ h1
      unfold tooLong sizeLine
      exact decide_eq_false (by omega)
    refine call_gives F.slot_str_replace (typeIs_str _ _ _) F.entry_str_replace (F.args_str_replace_3 _ _ _)
      (gives_str_replace x y z t u v fun _ => ⟨by simp [hu, hv], by simp [huv], hyz, hl⟩) ?_
    unfold Txt.replace at p
    split
    · rename_i hc
      rw [if_pos hc] at p
      exact post_made_val bs (repStr ht ht' kx) p
    · rename_i hc
      rw [if_neg hc] at p
      refine post_made_str bs h0 ?_ (fits_replaced y hb) p
      rw [StrLaws.glued_eq_join]
      exact ok_join kz (parts_ok kx _ _)
  · exact p.elim
end
end Mine

open PySem PyProof.Rows
set_option maxRecDepth 10000
namespace Mine

/-- what a call of the def at a does: what f says of the data -/
noncomputable def CallOK (prog : Program) (w : World) (base0 : Heap) (t0 n : Nat) (a : Addr) (f : List PyData → Out PyData) : Prop :=
  (∃ o fd, base0.get? a = some o ∧ o.data = .func fd) ∧
  ∀ (A : Around) (s : Shared) (base : Heap) (outer : List Env) (O : List Addr) (vs : List Value) (ds : List PyData) (Q E : Value → Shared → Prop),
    A.handled = none → A.frames = some outer → A.depth + n < recursionLimit → A.units + 4 * n + 100 < cLine →
    base0.StaysIn base → base.StaysIn s.heap → FFr s.heap base outer →
    (∀ a ∈ O, (s.heap.get? a).isSome ∧ base0.get? a = none) → t0 ≤ s.toks → Reps s.heap O s.toks ds vs →
    PostD O base outer s (f ds) Q E → wpAny (model prog w) A (call (.ref a) vs) Q E s

theorem CallOK.mono {prog : Program} {w : World} {base0 : Heap} {t0 n m : Nat} {a : Addr} {f : List PyData → Out PyData} (h : CallOK prog w base0 t0 n a f) (hm : n ≤ m) : CallOK prog w base0 t0 m a f :=
  ⟨h.1, fun A s base outer O vs ds Q E h1 h2 h3 h4 => h.2 A s base outer O vs ds Q E h1 h2 (by omega) (by omega)⟩

noncomputable def bltOf (x : Str) : Option Value :=
  if x = Str.ofString "len" then some (.builtin "len")
  else if x = Str.ofString "list" then some (.type "list")
  else if x = Str.ofString "type" then some (.type "type")
  else if x = Str.ofString "str" then some (.type "str")
  else if x = Str.ofString "range" then some (.type "range")
  else if x = Str.ofString "zip" then some (.type "zip")
  else if x = Str.ofString "ValueError" then some (.type "ValueError")
  else none

/-- the module's names -/
structure Glo (prog : Program) (w : World) (base0 : Heap) (mg mb : Str → Option Value) (t0 n : Nat) (C : PC) : Prop where
  g : base0.Ns mainGlobals mg
  b : base0.Ns builtinsNs mb
  lim : base0.NoLimit
  pos : 0 < t0
  data : ∀ x d, C.G x = some d → ∃ v, mg x = some v ∧ Rep base0 [] t0 d v
  fn : ∀ x f, C.F x = some f → ∃ a, mg x = some (.ref a) ∧ CallOK prog w base0 t0 n a f
  blt : ∀ x v, bltOf x = some v → mg x = none ∧ mb x = some v

structure Cx (prog : Program) (w : World) (base0 : Heap) (mg mb : Str → Option Value) (t0 n : Nat) (C : PC) (A : Around) (base hE : Heap) (scope : Scope) (outer : List Env) (env : Env) : Prop where
  glo : Glo prog w base0 mg mb t0 n C
  hh : A.handled = none
  fr : A.frames = some (env :: outer)
  dep : A.depth + n < recursionLimit
  uni : A.units + 4 * n + 100 < cLine
  b0 : base0.StaysIn base
  ff : FFr hE base outer
  kind : scope.kind = .function
  dbg : scope.names.lookup (Str.ofString "__debug__") = none

section
variable {prog : Program} {w : World} {base0 : Heap} {mg mb : Str → Option Value} {t0 n : Nat} {C : PC} {A : Around} {base hE : Heap} {name : Str} {scope : Scope} {L a : Addr} {cd : Value} {outer : List Env}
  {O₀ : Lent} {ρ : PE} {s : Shared} {m : Str → Option Value} {O : List Addr} {Q : Value → Shared → Prop} {E : Value → Shared → Prop}

abbrev CxE (prog : Program) (w : World) (base0 : Heap) (mg mb : Str → Option Value) (t0 n : Nat) (C : PC) (A : Around) (base hE : Heap) (name : Str) (scope : Scope) (L a : Addr) (cd : Value) (outer : List Env) : Prop :=
  Cx prog w base0 mg mb t0 n C A base hE scope outer (envOf name scope L a cd)

theorem kind_envOf {x : Str} : (envOf name scope L a cd).kindOf x = scope.names.lookup x := rfl

theorem Cx.units (X : CxE prog w base0 mg mb t0 n C A base hE name scope L a cd outer) : A.units + 64 < cLine := by
  have := X.uni
  omega

theorem St.frames (X : CxE prog w base0 mg mb t0 n C A base hE name scope L a cd outer) (S : St base0 base hE O₀ L scope.names t0 ρ s m O) : FFr s.heap base (envOf name scope L a cd :: outer) := by
  have f := X.ff.ext S.ext
  refine ⟨.cons (by show scope.kind ≠ .module; rw [X.kind]; decide) rfl S.ns S.lb f.1, fun b hb => ?_⟩
  have hb' : b = L ∨ b ∈ outer.filterMap (·.frame) := List.mem_cons.mp hb
  rcases hb' with rfl | hb'
  · obtain ⟨o, es, ep, h1, h2, _⟩ := S.ns
    exact ⟨o, es, ep, h1, h2⟩
  · exact f.2 b hb'

theorem St.al1 (S : St base0 base hE O₀ L scope.names t0 ρ s m O) : ∀ a ∈ O, (s.heap.get? a).isSome := fun a ha => (S.al a ha).1

theorem St.tpos (X : CxE prog w base0 mg mb t0 n C A base hE name scope L a cd outer) (S : St base0 base hE O₀ L scope.names t0 ρ s m O) : 0 < s.toks := Nat.lt_of_lt_of_le X.glo.pos S.tk

theorem name_dbg (X : CxE prog w base0 mg mb t0 n C A base hE name scope L a cd outer) {x : Str} {k : NameKind} (h : scope.names.lookup x = some k) : (x == ("__debug__" : Str)) = false := by
  rw [beq_eq_false_iff_ne]
  intro e
  rw [e, X.dbg] at h
  cases h

theorem load_dat (X : CxE prog w base0 mg mb t0 n C A base hE name scope L a cd outer) (S : St base0 base hE O₀ L scope.names t0 ρ s m O) {x : Str} {d : PyData} {pos : Pos} (e : ρ x = some (.dat d))
    (h : ∀ v, Rep s.heap O s.toks d v → Q v s) : wpAny (model prog w) A (eval (.Name x pos) (envOf name scope L a cd)) Q E s := by
  obtain ⟨v, h1, h2⟩ := S.dat x d e
  have hl := S.loc x _ e
  exact wpAny_Name (wpAny_loadName_local X.kind hl S.ns h1 (h v h2)) (name_dbg X hl)

theorem load_own (X : CxE prog w base0 mg mb t0 n C A base hE name scope L a cd outer) (S : St base0 base hE O₀ L scope.names t0 ρ s m O) {x : Str} {ds : List PyData} {pos : Pos} (e : ρ x = some (.own ds))
    (h : ∀ b, m x = some (.ref b) → b ∈ O → b ≠ L → b ∉ O₀.ad ∧ hE.get? b = none → OwnAt s.heap O s.toks ds b → Q (.ref b) s) : wpAny (model prog w) A (eval (.Name x pos) (envOf name scope L a cd)) Q E s := by
  obtain ⟨b, h1, h2, h3, h4, h5⟩ := S.own x ds e
  have hl := S.loc x _ e
  exact wpAny_Name (wpAny_loadName_local X.kind hl S.ns h1 (h b h1 h2 h3 h4 h5)) (name_dbg X hl)

theorem carry_base (X : CxE prog w base0 mg mb t0 n C A base hE name scope L a cd outer) (S : St base0 base hE O₀ L scope.names t0 ρ s m O) : Carry base0 [] s.heap O := fun b o _ e =>
  ⟨fun hb => (by have := (S.al b hb).2; rw [e] at this; cases this), o.slots, S.bs b o (X.b0 b o e)⟩

theorem load_glob (X : CxE prog w base0 mg mb t0 n C A base hE name scope L a cd outer) (S : St base0 base hE O₀ L scope.names t0 ρ s m O) {x : Str} {v : Value} {pos : Pos} (hx : scope.names.lookup x = some .globalImplicit) (e : mg x = some v)
    (h : Q v s) : wpAny (model prog w) A (eval (.Name x pos) (envOf name scope L a cd)) Q E s :=
  Calls.Name_function_global X.kind hx (Calls.loadGlobal_global (env := envOf name scope L a cd) (X.glo.g.keeps fun b o q => S.bs b o (X.b0 b o q)) e h) (name_dbg X hx)

theorem load_blt (X : CxE prog w base0 mg mb t0 n C A base hE name scope L a cd outer) (S : St base0 base hE O₀ L scope.names t0 ρ s m O) {x : Str} {v : Value} {pos : Pos} (hx : scope.names.lookup x = some .globalImplicit)
    (e : bltOf x = some v) (h : Q v s) : wpAny (model prog w) A (eval (.Name x pos) (envOf name scope L a cd)) Q E s := by
  obtain ⟨e1, e2⟩ := X.glo.blt x v e
  exact Calls.Name_function_global X.kind hx (Calls.loadGlobal_builtin (env := envOf name scope L a cd) (X.glo.g.keeps fun b o q => S.bs b o (X.b0 b o q)) e1
    (X.glo.b.keeps fun b o q => S.bs b o (X.b0 b o q)) e2 h) (name_dbg X hx)

theorem con_ok {d : PyData} {c : Const} {k : Nat} {pos : Pos} {env : Env} {l : List Env} (h : okC d c = true) (bs : base.StaysIn s.heap) (h0 : 0 < s.toks) (p : PostD O base l s (.ok d) Q E) : wpAny (model prog w) A (eval (.Constant c k pos) env) Q E s := by
  cases d with
  | none => cases c with
    | none => exact wpAny_Constant_none (p _ _ _ (.refl bs) rfl)
    | _ => exact (Bool.false_ne_true h).elim
  | bool b => cases c with
    | bool c =>
      obtain rfl : b = c := eq_of_beq h
      exact wpAny_Constant_bool (p _ _ _ (.refl bs) rfl)
    | _ => exact (Bool.false_ne_true h).elim
  | int b => cases c with
    | int c =>
      obtain rfl : b = c := eq_of_beq h
      exact wpAny_Constant_int (p _ _ _ (Grow.toks bs 1) ⟨_, rfl⟩)
    | _ => exact (Bool.false_ne_true h).elim
  | str b => cases c with
    | str c =>
      have h' : (b == c && PyData.strOk c) = true := h
      rw [Bool.and_eq_true] at h'
      obtain rfl : b = c := eq_of_beq h'.1
      exact wpAny_Constant_str (p _ _ _ (Grow.toks bs 1) (repStr h0 (Nat.lt_succ_self _) h'.2))
    | _ => exact (Bool.false_ne_true h).elim
  | _ => exact (Bool.false_ne_true h).elim
end
end Mine

open PySem PyProof.Rows
set_option maxRecDepth 10000
namespace Mine

abbrev trees (es : List Expr) (env : Env) : List (Bool × Sem Value) := es.map fun e => (false, eval e env)

theorem star_cons {e : Expr} {r : List Expr} (env : Env) (h : noStar [e] = true) : starEach (e :: r) env = (false, eval e env) :: starEach r env := by
  cases e with
  | Starred v p => exact (Bool.false_ne_true h).elim
  | _ => rfl
theorem noStar_cons {e : Expr} {r : List Expr} (h : noStar (e :: r) = true) : noStar [e] = true ∧ noStar r = true := by
  cases e with
  | Starred v p => exact (Bool.false_ne_true h).elim
  | _ => exact ⟨rfl, h⟩
theorem starEach_plain : ∀ {es : List Expr} (env : Env), noStar es = true → starEach es env = trees es env
  | [], _, _ => rfl
  | e :: r, env, h => by
    rw [star_cons env (noStar_cons h).1, starEach_plain env (noStar_cons h).2]; rfl
theorem backTo_trees (pos : Pos) (es : List Expr) (env : Env) : backTo pos (trees es env) = trees es env := by
  unfold backTo trees
  rw [List.map_map]
  rfl
theorem any_trees (es : List Expr) (env : Env) : (trees es env).any (·.1) = false := by
  unfold trees
  induction es with
  | nil => rfl
  | cons e r ih => rw [List.map_cons, List.any_cons, ih]; rfl
theorem all_trees (es : List Expr) (env : Env) : (trees es env).all (fun x => !x.1) = true := by
  unfold trees
  induction es with
  | nil => rfl
  | cons e r ih => rw [List.map_cons, List.all_cons, ih]; rfl

section
variable {M : Model} {A : Around} {E : Value → Shared → Prop} {s : Shared} {env : Env}
theorem evalArgs_trees {f : Value} {es : List Expr} {Q : Args → Shared → Prop} (h : wpAny M A (spliced (trees es env)) (fun vs s' => Q ⟨vs, []⟩ s') E s) : wpAny M A (evalArgs f true (trees es env) []) Q E s := by
  cases es with
  | nil =>
    unfold evalArgs
    show wpAny M A (spliced [] >>= _) Q E s
    refine wpAny_bind (wpAny_mono h (fun vs s' h' => ?_) fun _ _ x => x)
    refine wpAny_bind (wpAny_pure ?_)
    refine wpAny_holding ?_
    exact wpAny_bind (wpAny_pure (wpAny_bind (wpAny_pure (wpAny_pure h'))))
  | cons e r => exact Calls.evalArgs_plain h
end

theorem attrBase_plain {o : Expr} {attr : Str} {env : Env} {whole : Sem Value} (h : notSuper o = true) : attributeBase o attr env whole = whole := by
  cases o with
  | Call f as ks p =>
    cases f with
    | Name x q =>
      cases as with
      | nil => cases ks with
        | nil => exact (Bool.false_ne_true h).elim
        | cons _ _ => rfl
      | cons _ _ => rfl
    | _ => rfl
  | _ => rfl

end Mine

open PySem PyProof.Rows
set_option maxRecDepth 10000
namespace Mine

section
variable {prog : Program} {w : World} {base0 : Heap} {mg mb : Str → Option Value} {t0 n : Nat} {C : PC} {A : Around} {base hE : Heap} {name : Str} {scope : Scope} {L a : Addr} {cd : Value} {outer : List Env}
  {O₀ : List Addr} {ρ : PE} {m : Str → Option Value} {O : List Addr} {E : Value → Shared → Prop}

theorem pint_of {d : PyData} {s : Shared} {l : List Env} {α β : Type} {R : Heap → Nat → α → β → Prop} {f : Int → Out α} {Q : β → Shared → Prop} (p : Post R base l s ((pint? d).bind f) Q E) : ∃ i, d = .int i ∧ Post R base l s (f i) Q E := by
  cases d with
  | int i => exact ⟨i, rfl, p⟩
  | _ => exact p.elim
theorem pbool_of {d : PyData} {s : Shared} {l : List Env} {α β : Type} {R : Heap → Nat → α → β → Prop} {f : Bool → Out α} {Q : β → Shared → Prop} (p : Post R base l s ((pbool? d).bind f) Q E) : ∃ b, d = .bool b ∧ Post R base l s (f b) Q E := by
  cases d with
  | bool i => exact ⟨i, rfl, p⟩
  | _ => exact p.elim

theorem pstr_of {d : PyData} {s : Shared} {l : List Env} {α β : Type} {R : Heap → Nat → α → β → Prop} {f : Str → Out α} {Q : β → Shared → Prop} (p : Post R base l s ((pstr? d).bind f) Q E) : ∃ i, d = .str i ∧ Post R base l s (f i) Q E := by
  cases d with
  | str i => exact ⟨i, rfl, p⟩
  | _ => exact p.elim

theorem bltOf_len : bltOf (Str.ofString "len") = some (.builtin "len") := by unfold bltOf; rw [if_pos rfl]
theorem bltOf_list : bltOf (Str.ofString "list") = some (.type "list") := by simp only [bltOf, ofS_inj]; rfl
theorem bltOf_type : bltOf (Str.ofString "type") = some (.type "type") := by simp only [bltOf, ofS_inj]; rfl
theorem bltOf_str : bltOf (Str.ofString "str") = some (.type "str") := by simp only [bltOf, ofS_inj]; rfl
theorem bltOf_range : bltOf (Str.ofString "range") = some (.type "range") := by simp only [bltOf, ofS_inj]; rfl
theorem bltOf_zip : bltOf (Str.ofString "zip") = some (.type "zip") := by simp only [bltOf, ofS_inj]; rfl
theorem bltOf_VE : bltOf (Str.ofString "ValueError") = some (.type "ValueError") := by simp only [bltOf, ofS_inj]; rfl

theorem len_ok {d : PyData} {v : Value} {s : Shared} {l : List Env} {Q : Value → Shared → Prop} {N : Nat} (bs : base.StaysIn s.heap) (r : Rep s.heap O s.toks d v)
    (hd : (∃ x, d = .str x ∧ N = x.length) ∨ (∃ ds, d = .list ds ∧ N = ds.length) ∨ ∃ ds, d = .tuple ds ∧ N = ds.length) (hN : N ≤ LIM) (p : PostD O base l s (.ok (.int N)) Q E) :
    wpAny (model prog w) A (call (.builtin "len") [v]) Q E s := by
  have hL : LIM = 16777216 := rfl
  have p2 := p _ s.heap (s.toks + 1 + 1) ⟨.refl _, bs, by omega⟩ ⟨s.toks + 1, rfl⟩
  rcases hd with ⟨x, rfl, e⟩ | ⟨ds, rfl, e⟩ | ⟨ds, rfl, e⟩
  · obtain ⟨t, rfl, _⟩ := r
    subst e
    exact P.len_str (by omega) p2
  · obtain ⟨b, its, rfl, lb, rs⟩ := list_of_rep r
    have hn := rs.length
    simp only [Array.length_toList] at hn
    rw [← hn] at e
    subst e
    exact len_list lb (by omega) p2
  · obtain ⟨b, its, rfl, lb, rs⟩ := tuple_of_rep r
    have hn := rs.length
    simp only [Array.length_toList] at hn
    rw [← hn] at e
    subst e
    exact PyProof.Rows.len_tuple lb (by omega) p2

theorem listcopy_ok {ds : List PyData} {v : Value} {s : Shared} {l : List Env} {Q : Value → Shared → Prop} (bs : base.StaysIn s.heap) (al : ∀ a ∈ O, (s.heap.get? a).isSome) (r : Rep s.heap O s.toks (.list ds) v) (hN : ds.length ≤ LIM)
    (p : PostD O base l s (.ok (.list ds)) Q E) : wpAny (model prog w) A (call (.type "list") [v]) Q E s := by
  obtain ⟨b, o, vs, k, h1, h2, h3, h4, h5, h6, h7⟩ := r
  subst h1
  have hn := h7.length
  simp only [Array.length_toList] at hn
  refine call_list_seq b (.inl rfl) h3 h4 h6 (fun h' c' hk hD => ?_) (by rw [hn, sizeLine_is]; exact hN)
  refine p _ h' s.toks ⟨.of_keeps hk, fun x ox e => hk x ox (bs x ox e), Nat.le_refl _⟩ ⟨_, _, vs, c', rfl, fun hm => ?_, hD, rfl, rfl, rfl, h7.carry (.ext (.of_keeps hk) O) (Nat.le_refl _)⟩
  have := al _ hm
  rw [Heap.get?_none_of_le (Nat.le_refl _)] at this
  cases this

theorem plen_ok {d : PyData} {v : Value} {s : Shared} {l : List Env} {Q : Value → Shared → Prop} (bs : base.StaysIn s.heap) (r : Rep s.heap O s.toks d v) (p : PostD O base l s (plen d) Q E) : wpAny (model prog w) A (call (.builtin "len") [v]) Q E s := by
  cases d with
  | str x =>
    have p' : PostD O base l s (if x.length ≤ LIM then .ok (.int x.length) else .bad) Q E := p
    by_cases h : x.length ≤ LIM
    · rw [if_pos h] at p'; exact len_ok bs r (.inl ⟨_, rfl, rfl⟩) h p'
    · rw [if_neg h] at p'; exact p'.elim
  | list x =>
    have p' : PostD O base l s (if x.length ≤ LIM then .ok (.int x.length) else .bad) Q E := p
    by_cases h : x.length ≤ LIM
    · rw [if_pos h] at p'; exact len_ok bs r (.inr (.inl ⟨_, rfl, rfl⟩)) h p'
    · rw [if_neg h] at p'; exact p'.elim
  | tuple x =>
    have p' : PostD O base l s (if x.length ≤ LIM then .ok (.int x.length) else .bad) Q E := p
    by_cases h : x.length ≤ LIM
    · rw [if_pos h] at p'; exact len_ok bs r (.inr (.inr ⟨_, rfl, rfl⟩)) h p'
    · rw [if_neg h] at p'; exact p'.elim
  | _ => exact p.elim
theorem plist_ok {d : PyData} {v : Value} {s : Shared} {l : List Env} {Q : Value → Shared → Prop} (bs : base.StaysIn s.heap) (al : ∀ a ∈ O, (s.heap.get? a).isSome) (r : Rep s.heap O s.toks d v) (p : PostD O base l s (plist d) Q E) : wpAny (model prog w) A (call (.type "list") [v]) Q E s := by
  cases d with
  | list x =>
    have p' : PostD O base l s (if x.length ≤ LIM then .ok (.list x) else .bad) Q E := p
    by_cases h : x.length ≤ LIM
    · rw [if_pos h] at p'; exact listcopy_ok bs al r h p'
    · rw [if_neg h] at p'; exact p'.elim
  | _ => exact p.elim

theorem typeIs_rep {d : PyData} {v : Value} {s : Shared} (r : Rep s.heap O s.toks d v) : ∃ T, s.TypeIs v T ∧ (Value.type T == Value.type "builtin_function_or_method") = false ∧
    (T == "list") = isListD d ∧ (T == "str") = isStrD d := by
  cases d with
  | none => obtain rfl : v = .none := r; exact ⟨"NoneType", rfl, by decide, by simp [isListD], by simp [isStrD]⟩
  | bool b => obtain rfl : v = .bool b := r; exact ⟨"bool", rfl, by decide, by simp [isListD], by simp [isStrD]⟩
  | int i => obtain ⟨t, rfl⟩ := r; exact ⟨"int", rfl, by decide, by simp [isListD], by simp [isStrD]⟩
  | str x => obtain ⟨t, rfl, _⟩ := r; exact ⟨"str", rfl, by decide, by simp [isListD], by simp [isStrD]⟩
  | list ds => obtain ⟨b, its, rfl, lb, rs⟩ := list_of_rep r; exact ⟨"list", lb.typeIs, by decide, by simp [isListD], by simp [isStrD]⟩
  | tuple ds => obtain ⟨b, its, rfl, lb, rs⟩ := tuple_of_rep r; exact ⟨"tuple", lb.typeIs, by decide, by simp [isListD], by simp [isStrD]⟩
  | dict _ => exact r.elim

theorem isType_ok {d : PyData} {v : Value} {s : Shared} {l : List Env} {Q : Value → Shared → Prop} {t : Str} (bs : base.StaysIn s.heap) (r : Rep s.heap O s.toks d v) (p : PostD O base l s (isType d t) Q E) :
    ∃ T T', s.TypeIs v T ∧ (Value.type T == Value.type "builtin_function_or_method") = false ∧ bltOf t = some (.type T') ∧ wpAny (model prog w) A (compareOp .Is (.type T) (.type T')) Q E s := by
  obtain ⟨T, h1, h2, h3, h4⟩ := typeIs_rep r
  have cmp : ∀ T' : String, ((Value.type T == Value.type T') = (T == T')) := by
    intro T'
    by_cases h : T = T'
    · subst h; simp
    · have e1 : (T == T') = false := by simpa using h
      rw [e1, beq_eq_false_iff_ne]
      intro e; injection e with e; exact h e
  unfold isType at p
  split at p
  · rename_i ht
    subst ht
    refine ⟨T, _, h1, h2, bltOf_list, wpAny_is_plain rfl ?_⟩
    rw [cmp, h3]
    exact p _ _ _ (.refl bs) rfl
  · split at p
    · rename_i ht
      subst ht
      refine ⟨T, _, h1, h2, bltOf_str, wpAny_is_plain rfl ?_⟩
      rw [cmp, h4]
      exact p _ _ _ (.refl bs) rfl
    · exact p.elim
end
end Mine

open PySem PyProof.Rows
set_option maxRecDepth 10000
namespace Mine

section
variable {prog : Program} {w : World} {base0 : Heap} {mg mb : Str → Option Value} {t0 n : Nat} {C : PC} {A : Around} {base hE : Heap} {name : Str} {scope : Scope} {L a : Addr} {cd : Value} {outer : List Env}
  {O₀ : Lent} {ρ : PE} {m : Str → Option Value} {O : List Addr} {E : Value → Shared → Prop}

/-- a call of a def by its name, its arguments evaluated -/
theorem calld_ok (X : CxE prog w base0 mg mb t0 n C A base hE name scope L a cd outer) {f : Str} {np pos : Pos} {as : List Expr} {s : Shared} {Q : Value → Shared → Prop} {o : Out (List PyData)}
    (S : St base0 base hE O₀ L scope.names t0 ρ s m O) (hgk : scope.names.lookup f = some .globalImplicit) (hst : noStar as = true)
    (hargs : ∀ (s : Shared) (Q : List Value → Shared → Prop), St base0 base hE O₀ L scope.names t0 ρ s m O → PostL O base (envOf name scope L a cd :: outer) s o Q E → wpAny (model prog w) A (spliced (trees as (envOf name scope L a cd))) Q E s)
    (p : PostD O base (envOf name scope L a cd :: outer) s (pfn (C.F f) o) Q E) :
    wpAny (model prog w) A (eval (.Call (.Name f np) as [] pos) (envOf name scope L a cd)) Q E s := by
  have hb : backTo pos (starEach as (envOf name scope L a cd)) = trees as (envOf name scope L a cd) := by rw [starEach_plain _ hst, backTo_trees]
  refine wpAny_Call_ofName ?_
  rw [hb]
  show wpAny _ _ _ (fun f s₁ => wpAny (model prog w) A (callWith pos f [] (trees as (envOf name scope L a cd)) []) Q E s₁) E s
  cases hF : C.F f with
  | none => rw [hF] at p; exact p.elim
  | some g =>
    rw [hF] at p
    have p1 : PostD O base (envOf name scope L a cd :: outer) s (o.bind g) Q E := p
    obtain ⟨fa, h1, h2⟩ := X.glo.fn f g hF
    obtain ⟨⟨fo, fd, k1, k2⟩, h3⟩ := h2
    refine load_glob X S hgk h1 ?_
    refine Calls.callWith_function (o := fo) (fd := fd) (evalArgs_trees (hargs s _ S (Post.bind p1 fun ds vs h' tk' _ g' r p' => ?_)))
    refine ⟨⟨g'.bs _ _ (X.b0 _ _ k1), k2⟩, ?_⟩
    have S' := S.grow g'
    exact h3 A _ base _ O vs ds Q E X.hh X.fr X.dep X.uni X.b0 g'.bs (S'.frames X) S'.al S'.tk r p'
end
end Mine

open PySem PyProof.Rows
set_option maxRecDepth 10000
namespace Mine

theorem nn {α : Type} {x : α} {P : Prop} (h : (none : Option α) = some x) : P := by cases h
theorem bm_is (r : Expr) : behindInMarks .Is r = false := by
  cases r with
  | Set es k p =>
    show (k == 0 && false && es.all (constantsAlone 8)) = false
    rw [Bool.and_false, Bool.false_and]
  | _ => rfl
theorem bm_pev {op : CmpOp} {r : Expr} (h : notSet r = true) : behindInMarks op r = false := by
  cases r <;> first | rfl | (cases op <;> first | rfl | exact (Bool.false_ne_true h).elim)

theorem ofLk {sc : Scope} {x : String} (h : isL sc x = true) : sc.names.lookup (Str.ofString x) = some .local := eq_of_beq h
theorem ofGk {sc : Scope} {x : String} (h : isG sc x = true) : sc.names.lookup (Str.ofString x) = some .globalImplicit := eq_of_beq h
theorem ofN {e : Expr} {x : String} (h : isN e x = true) : ∃ p, e = .Name (Str.ofString x) p := by
  have h' : nm? e = some (Str.ofString x) := eq_of_beq h
  cases e with
  | Name y p => cases h'; exact ⟨p, rfl⟩
  | _ => exact nn h'
theorem ofCst {e : Expr} {c : Str} (h : cst? e = some c) : ∃ k p, e = .Constant (.str c) k p ∧ PyData.strOk c = true := by
  cases e with
  | Constant d k p =>
    cases d with
    | str x =>
      have h' : (if PyData.strOk x = true then some x else none) = some c := h
      split at h'
      · rename_i hk; cases h'; exact ⟨k, p, rfl, hk⟩
      · cases h'
    | _ => exact nn h
  | _ => exact nn h
theorem ofOne {l : List Expr} {e : Expr} (h : one? l = some e) : l = [e] := by
  match l, h with
  | [x], h => cases h; rfl
theorem ofTwo {l : List Expr} {e e' : Expr} (h : two? l = some (e, e')) : l = [e, e'] := by
  match l, h with
  | [x, y], h => cases h; rfl
theorem ofMeth {e o : Expr} {n : Str} {as : List Expr} (h : meth? e = some (o, n, as)) : ∃ ap cp, e = .Call (.Attribute o n ap) as [] cp ∧ notSuper o = true ∧ ap.endLine = cp.line := by
  cases e with
  | Call f as' kws cp =>
    cases f with
    | Attribute o' n' ap =>
      have h' : (if (kws.isEmpty && notSuper o' && (ap.endLine == cp.line)) = true then some (o', n', as') else none) = some (o, n, as) := h
      split at h'
      · rename_i hk
        cases h'
        rw [Bool.and_eq_true, Bool.and_eq_true] at hk
        obtain rfl : kws = [] := List.isEmpty_iff.mp hk.1.1
        exact ⟨ap, cp, rfl, hk.1.2, eq_of_beq hk.2⟩
      · cases h'
    | _ => exact nn h
  | _ => exact nn h
theorem ofCall {e : Expr} {n : Str} {as : List Expr} (h : call? e = some (n, as)) : ∃ np cp, e = .Call (.Name n np) as [] cp := by
  cases e with
  | Call f as' kws cp =>
    cases f with
    | Name n' np =>
      have h' : (if kws.isEmpty = true then some (n', as') else none) = some (n, as) := h
      split at h'
      · rename_i hk
        cases h'
        obtain rfl : kws = [] := List.isEmpty_iff.mp hk
        exact ⟨np, cp, rfl⟩
      · cases h'
    | _ => exact nn h
  | _ => exact nn h

/-- an expression that is matched is none of the odd ones -/
theorem okE_not {sc : Scope} {q : QE} {e : Expr} (h : okE sc q e = true) : notSet e = true ∧ noComp e = true ∧ noStar [e] = true ∧ ∀ lo hi st p, e ≠ .Slice lo hi st p := by
  cases e <;> first
    | exact ⟨rfl, rfl, rfl, fun _ _ _ _ q => Expr.noConfusion q⟩
    | (exfalso; cases q <;> exact Bool.false_ne_true h)
theorem okL_star {sc : Scope} : ∀ {q : QE} {es : List Expr}, okL sc q es = true → noStar es = true
  | _, [], _ => rfl
  | q, e :: es, h => by
    cases q with
    | cons q r =>
      have h' : (okE sc q e && okL sc r es) = true := h
      rw [Bool.and_eq_true] at h'
      have h1 := (okE_not h'.1).2.2.1
      have h2 := okL_star h'.2
      cases e <;> first | exact h2 | exact (Bool.false_ne_true h1).elim
    | _ => exact (Bool.false_ne_true h).elim

section
variable {prog : Program} {w : World} {base0 : Heap} {mg mb : Str → Option Value} {t0 n : Nat} {C : PC} {A : Around} {base hE : Heap} {name : Str} {scope : Scope} {L a : Addr} {cd : Value} {outer : List Env}
  {O₀ : Lent} {ρ : PE} {m : Str → Option Value} {O : List Addr} {E : Value → Shared → Prop}

/-- what a method's call asks: the object, then the arguments -/
theorem meth_few {as : List Expr} {cp : Pos} {env : Env} (hst : noStar as = true) (h : as.length < 30) : ((backTo cp (starEach as env)).all (fun x => !x.1) && (backToKw cp (keywordEach [] env)).all (fun x => x.1.isSome)
      && decide (as.length + ([] : List Keyword).length + (if ([] : List Keyword).isEmpty then 0 else 1) < 30)) = true := by
  rw [starEach_plain _ hst, backTo_trees, all_trees]
  simp only [Bool.true_and, Bool.and_eq_true, decide_eq_true_eq]
  exact ⟨rfl, by simpa using h⟩

abbrev EvE (prog : Program) (w : World) (base0 : Heap) (t0 : Nat) (C : PC) (A : Around) (base hE : Heap) (name : Str) (scope : Scope) (L a : Addr) (cd : Value) (outer : List Env) (O₀ : Lent) (ρ : PE) (m : Str → Option Value) (O : List Addr) (E : Value → Shared → Prop) (q : QE) : Prop :=
  ∀ (e : Expr) (s : Shared) (Q : Value → Shared → Prop), okE scope q e = true → St base0 base hE O₀ L scope.names t0 ρ s m O → PostD O base (envOf name scope L a cd :: outer) s (pev C ρ q) Q E → wpAny (model prog w) A (eval e (envOf name scope L a cd)) Q E s
abbrev EvL (prog : Program) (w : World) (base0 : Heap) (t0 : Nat) (C : PC) (A : Around) (base hE : Heap) (name : Str) (scope : Scope) (L a : Addr) (cd : Value) (outer : List Env) (O₀ : Lent) (ρ : PE) (m : Str → Option Value) (O : List Addr) (E : Value → Shared → Prop) (q : QE) : Prop :=
  ∀ (es : List Expr) (s : Shared) (Q : List Value → Shared → Prop), okL scope q es = true → St base0 base hE O₀ L scope.names t0 ρ s m O → PostL O base (envOf name scope L a cd :: outer) s (pevs C ρ q) Q E → wpAny (model prog w) A (spliced (trees es (envOf name scope L a cd))) Q E s
abbrev EvO (prog : Program) (w : World) (base0 : Heap) (t0 : Nat) (C : PC) (A : Around) (base hE : Heap) (name : Str) (scope : Scope) (L a : Addr) (cd : Value) (outer : List Env) (O₀ : Lent) (ρ : PE) (m : Str → Option Value) (O : List Addr) (E : Value → Shared → Prop) (q : QE) : Prop :=
  ∀ (o : Option Expr) (s : Shared) (Q : Value → Shared → Prop), okO scope q o = true → St base0 base hE O₀ L scope.names t0 ρ s m O → PostO base (envOf name scope L a cd :: outer) s (peo C ρ q) Q E → wpAny (model prog w) A (evalPart o (envOf name scope L a cd)) Q E s
abbrev EvB (prog : Program) (w : World) (base0 : Heap) (t0 : Nat) (C : PC) (A : Around) (base hE : Heap) (name : Str) (scope : Scope) (L a : Addr) (cd : Value) (outer : List Env) (O₀ : Lent) (ρ : PE) (m : Str → Option Value) (O : List Addr) (E : Value → Shared → Prop) (q : QE) : Prop :=
  ∀ (op : BoolOp) (es : List Expr) (s : Shared) (Q : Value → Shared → Prop) (pos : Pos), okL scope q es = true → St base0 base hE O₀ L scope.names t0 ρ s m O → PostD O base (envOf name scope L a cd :: outer) s (pbo C ρ op q) Q E → wpAny (model prog w) A (boolOp pos op (evalEach es (envOf name scope L a cd))) Q E s

theorem strBase {x : Str} {t : Tok} {s₁ : Shared} : s₁.TypeIs (.str x t) "str" ∧ (∀ a, Value.str x t = .ref a → ∃ ob, s₁.heap.get? a = some ob ∧ ob.dict = none) := ⟨typeIs_str s₁ x t, fun _ e => nomatch e⟩

theorem pvar_ok (X : CxE prog w base0 mg mb t0 n C A base hE name scope L a cd outer) {s : Shared} (S : St base0 base hE O₀ L scope.names t0 ρ s m O) {x : Str} {pos : Pos} {Q : Value → Shared → Prop} (p : PostD O base (envOf name scope L a cd :: outer) s (pvar (ρ x)) Q E) :
    wpAny (model prog w) A (eval (.Name x pos) (envOf name scope L a cd)) Q E s := by
  cases h : ρ x with
  | none => rw [h] at p; exact p.elim
  | some v =>
    rw [h] at p
    cases v with
    | dat d => exact load_dat X S h fun v r => p _ _ _ (.refl S.bs) r
    | own ds => exact p.elim

theorem pstrV_of {v : Option LV} {α β : Type} {R : Heap → Nat → α → β → Prop} {s : Shared} {l : List Env} {f : Str → Out α} {Q : β → Shared → Prop} (p : Post R base l s ((pstrV v).bind f) Q E) : ∃ x, v = some (.dat (.str x)) ∧ Post R base l s (f x) Q E := by
  cases v with
  | none => exact p.elim
  | some v =>
    cases v with
    | own ds => exact p.elim
    | dat d =>
      cases d with
      | str x => exact ⟨x, rfl, p⟩
      | _ => exact p.elim
theorem if_of {α β : Type} {R : Heap → Nat → α → β → Prop} {s : Shared} {l : List Env} {c : Prop} [Decidable c] {o : Out α} {Q : β → Shared → Prop} (p : Post R base l s (if c then o else .bad) Q E) : c ∧ Post R base l s o Q E := by
  by_cases h : c
  · rw [if_pos h] at p; exact ⟨h, p⟩
  · rw [if_neg h] at p; exact p.elim

theorem meth_ok (X : CxE prog w base0 mg mb t0 n C A base hE name scope L a cd outer) {mm : MM} {o y : Expr} {ap cp : Pos} {qo qy : QE} {s : Shared} {Q : Value → Shared → Prop} (ho : EvE prog w base0 t0 C A base hE name scope L a cd outer O₀ ρ m O E qo) (hy : EvE prog w base0 t0 C A base hE name scope L a cd outer O₀ ρ m O E qy)
    (ko : okE scope qo o = true) (ky : okE scope qy y = true) (hsup : notSuper o = true) (hl : ap.endLine = cp.line) (S : St base0 base hE O₀ L scope.names t0 ρ s m O)
    (p : PostD O base (envOf name scope L a cd :: outer) s ((pev C ρ qo).bind fun a => (pstr? a).bind fun x => (pev C ρ qy).bind fun d => pmeth mm x d) Q E) :
    wpAny (model prog w) A (eval (.Call (.Attribute o mm.nm ap) [y] [] cp) (envOf name scope L a cd)) Q E s := by
  have hst := (okE_not ky).2.2.1
  have hln : (ap.endLine == cp.line) = true := by rw [beq_iff_eq]; exact hl
  have hbt : backTo cp (starEach [y] (envOf name scope L a cd)) = trees [y] (envOf name scope L a cd) := by rw [starEach_plain _ hst, backTo_trees]
  have argOk : ∀ {id : String} {x : Str} {t : Tok} {s₁ : Shared} (S1 : St base0 base hE O₀ L scope.names t0 ρ s₁ m O), Rep s₁.heap O s₁.toks (.str x) (.str x t) →
      PostD O base (envOf name scope L a cd :: outer) s₁ ((pev C ρ qy).bind fun d => pmeth mm x d) Q E →
      (∀ d v h' tk', Grow base s₁ h' tk' → Rep h' O tk' (.str x) (.str x t) → Rep h' O tk' d v → PostD O base (envOf name scope L a cd :: outer) { s₁ with heap := h', toks := tk' } (pmeth mm x d) Q E → wpAny (model prog w) A (call (.builtin id) [.str x t, v]) Q E { s₁ with heap := h', toks := tk' }) →
      wpAny (model prog w) A (callWith cp (.builtin id) [.str x t] (trees [y] (envOf name scope L a cd)) []) Q E s₁ := by
    intro id x t s₁ S1 rx px kk
    exact Calls.callWith_builtin (any_trees _ _) (evalArgs_trees (Calls.spliced_cons (hy y _ _ ky S1 (Post.bind px fun d v h' tk' _ g r₁ p' => Calls.spliced_nil (kk d v h' tk' g (rx.carry (.ext g.ext O) g.tk) r₁ p')))))
  cases mm with
  | join =>
    refine wpAny_Call_method (attrBase_plain hsup) (meth_few hst (by show 1 < 30; decide)) hln F.plainAttrs_str F.slot_str_join F.type_str_join ?_
    rw [hbt]
    refine ho o s _ ko S (Post.bind p fun d v h' tk' _ g r₁ p' => ?_)
    obtain ⟨x, rfl, p2⟩ := pstr_of p'
    obtain ⟨t, rfl, t1, t2, t3⟩ := r₁
    refine ⟨strBase.1, strBase.2, argOk (S.grow g) ⟨t, rfl, t1, t2, t3⟩ p2 fun d v h2 tk2 g2 rx rd p3 => ?_⟩
    cases d with
    | list ds =>
      cases hys : strs? ds with
      | none =>
        have p4 : PostD O base (envOf name scope L a cd :: outer) _ (match strs? ds with | some ys => if (ys.map (·.length)).sum + ys.length * x.length ≤ LIM then Out.ok (.str (Str.join x ys)) else .bad | none => .bad) Q E := p3
        rw [hys] at p4; exact p4.elim
      | some ys =>
        have p4 : PostD O base (envOf name scope L a cd :: outer) _ (match strs? ds with | some ys => if (ys.map (·.length)).sum + ys.length * x.length ≤ LIM then Out.ok (.str (Str.join x ys)) else .bad | none => .bad) Q E := p3
        rw [hys] at p4
        obtain ⟨hle, p5⟩ := if_of p4
        exact join_ok g2.bs (((S.grow g).grow g2).tpos X) rx rd hys hle p5
    | _ => exact p3.elim
  | split =>
    refine wpAny_Call_method (attrBase_plain hsup) (meth_few hst (by show 1 < 30; decide)) hln F.plainAttrs_str F.slot_str_split F.type_str_split ?_
    rw [hbt]
    refine ho o s _ ko S (Post.bind p fun d v h' tk' _ g r₁ p' => ?_)
    obtain ⟨x, rfl, p2⟩ := pstr_of p'
    obtain ⟨t, rfl, t1, t2, t3⟩ := r₁
    refine ⟨strBase.1, strBase.2, argOk (S.grow g) ⟨t, rfl, t1, t2, t3⟩ p2 fun d v h2 tk2 g2 rx rd p3 => ?_⟩
    cases d with
    | str yy =>
      obtain ⟨hle, p4⟩ := if_of (o := Out.ok (PyData.list ((Txt.split x yy).map .str))) p3
      exact split_ok g2.bs ((S.grow g).grow g2).al1 (((S.grow g).grow g2).tpos X) rx rd hle.1 hle.2 p4
    | _ => exact p3.elim
  | rstrip =>
    refine wpAny_Call_method (attrBase_plain hsup) (meth_few hst (by show 1 < 30; decide)) hln F.plainAttrs_str F.slot_str_rstrip F.type_str_rstrip ?_
    rw [hbt]
    refine ho o s _ ko S (Post.bind p fun d v h' tk' _ g r₁ p' => ?_)
    obtain ⟨x, rfl, p2⟩ := pstr_of p'
    obtain ⟨t, rfl, t1, t2, t3⟩ := r₁
    refine ⟨strBase.1, strBase.2, argOk (S.grow g) ⟨t, rfl, t1, t2, t3⟩ p2 fun d v h2 tk2 g2 rx rd p3 => ?_⟩
    cases d with
    | str yy =>
      obtain ⟨hle, p4⟩ := if_of (o := Out.ok (PyData.str (Txt.rstripChars x yy))) p3
      exact rstrip_ok g2.bs (((S.grow g).grow g2).tpos X) rx rd hle p4
    | _ => exact p3.elim

theorem no_ofNat : noStar [Expr.Constant .none 0 ⟨0, 0, 0, 0⟩] = true := rfl
theorem noStar_two {y z : Expr} (h1 : noStar [y] = true) (h2 : noStar [z] = true) : noStar [y, z] = true := by
  cases y <;> first | exact h2 | exact (Bool.false_ne_true h1).elim

theorem repl_obj (X : CxE prog w base0 mg mb t0 n C A base hE name scope L a cd outer) {o y z : Expr} {ap cp : Pos} {qo : QE} {s : Shared} {Q : Value → Shared → Prop} (ho : EvE prog w base0 t0 C A base hE name scope L a cd outer O₀ ρ m O E qo)
    (ko : okE scope qo o = true) (hst : noStar [y, z] = true) (hsup : notSuper o = true) (hl : ap.endLine = cp.line) (S : St base0 base hE O₀ L scope.names t0 ρ s m O) {f : Str → Out PyData}
    (p : PostD O base (envOf name scope L a cd :: outer) s ((pev C ρ qo).bind fun a => (pstr? a).bind f) Q E)
    (k : ∀ x t h' tk', Grow base s h' tk' → 0 < t → t < tk' → PyData.strOk x = true → PostD O base (envOf name scope L a cd :: outer) { s with heap := h', toks := tk' } (f x) Q E →
      wpAny (model prog w) A (spliced (trees [y, z] (envOf name scope L a cd))) (fun vs s' => wpAny (model prog w) A (call (.builtin "str.replace") (.str x t :: vs)) Q E s') E { s with heap := h', toks := tk' }) :
    wpAny (model prog w) A (eval (.Call (.Attribute o (Str.ofString "replace") ap) [y, z] [] cp) (envOf name scope L a cd)) Q E s := by
  have hln : (ap.endLine == cp.line) = true := by rw [beq_iff_eq]; exact hl
  refine wpAny_Call_method (attrBase_plain hsup) (meth_few hst (by show 2 < 30; decide)) hln F.plainAttrs_str F.slot_str_replace F.type_str_replace ?_
  rw [starEach_plain _ hst, backTo_trees]
  refine ho o s _ ko S (Post.bind p fun d v h' tk' _ g r₁ p' => ?_)
  obtain ⟨x, rfl, p2⟩ := pstr_of p'
  obtain ⟨t, rfl, t1, t2, t3⟩ := r₁
  exact ⟨strBase.1, strBase.2, Calls.callWith_builtin (any_trees _ _) (evalArgs_trees (k x t h' tk' g t1 t2 t3 p2))⟩
end
end Mine

open PySem PyProof.Rows
set_option maxRecDepth 10000
namespace Mine
section
variable {prog : Program} {w : World} {base0 : Heap} {mg mb : Str → Option Value} {t0 n : Nat} {C : PC} {A : Around} {base hE : Heap} {name : Str} {scope : Scope} {L a : Addr} {cd : Value} {outer : List Env}
  {O₀ : Lent} {ρ : PE} {m : Str → Option Value} {O : List Addr} {E : Value → Shared → Prop}

structure EvAll (prog : Program) (w : World) (base0 : Heap) (t0 : Nat) (C : PC) (A : Around) (base hE : Heap) (name : Str) (scope : Scope) (L a : Addr) (cd : Value) (outer : List Env) (O₀ : Lent) (ρ : PE) (m : Str → Option Value) (O : List Addr) (E : Value → Shared → Prop) (q : QE) : Prop where
  e : EvE prog w base0 t0 C A base hE name scope L a cd outer O₀ ρ m O E q
  l : EvL prog w base0 t0 C A base hE name scope L a cd outer O₀ ρ m O E q
  o : EvO prog w base0 t0 C A base hE name scope L a cd outer O₀ ρ m O E q
  b : EvB prog w base0 t0 C A base hE name scope L a cd outer O₀ ρ m O E q

theorem EvAll.of_e {q : QE} (he : EvE prog w base0 t0 C A base hE name scope L a cd outer O₀ ρ m O E q) (hl : ∀ es, okL scope q es = false) (ho : ∀ o, okO scope q o = false) : EvAll prog w base0 t0 C A base hE name scope L a cd outer O₀ ρ m O E q :=
  ⟨he, fun es _ _ h => (Bool.false_ne_true ((hl es).symm.trans h)).elim, fun o _ _ h => (Bool.false_ne_true ((ho o).symm.trans h)).elim, fun _ es _ _ _ h => (Bool.false_ne_true ((hl es).symm.trans h)).elim⟩

theorem and2 {x y : Bool} (h : (x && y) = true) : x = true ∧ y = true := by rwa [Bool.and_eq_true] at h
theorem and3 {x y z : Bool} (h : (x && y && z) = true) : x = true ∧ y = true ∧ z = true := by
  rw [Bool.and_eq_true, Bool.and_eq_true] at h; exact ⟨h.1.1, h.1.2, h.2⟩
theorem opt_of {α : Type} {o : Option α} {f : α → Bool} (h : oB o f = true) : ∃ x, o = some x ∧ f x = true := by
  cases o with
  | none => exact (Bool.false_ne_true h).elim
  | some x => exact ⟨x, rfl, h⟩
theorem opt2_of {α β : Type} {o : Option (α × β)} {f : α → β → Bool} (h : o2B o f = true) : ∃ x y, o = some (x, y) ∧ f x y = true := by
  cases o with
  | none => exact (Bool.false_ne_true h).elim
  | some x => exact ⟨x.1, x.2, rfl, h⟩
theorem opt3_of {α β γ : Type} {o : Option (α × β × γ)} {f : α → β → γ → Bool} (h : o3B o f = true) : ∃ x y z, o = some (x, y, z) ∧ f x y z = true := by
  cases o with
  | none => exact (Bool.false_ne_true h).elim
  | some x => exact ⟨x.1, x.2.1, x.2.2, rfl, h⟩

theorem ev_bin (X : CxE prog w base0 mg mb t0 n C A base hE name scope L a cd outer) {op : Operator} {l r : QE} (hl : EvE prog w base0 t0 C A base hE name scope L a cd outer O₀ ρ m O E l) (hr : EvE prog w base0 t0 C A base hE name scope L a cd outer O₀ ρ m O E r) :
    EvE prog w base0 t0 C A base hE name scope L a cd outer O₀ ρ m O E (.bin op l r) := by
  intro e s Q h S p
  cases e with
  | BinOp l' op' r' pos =>
    obtain ⟨h1, h2, h3⟩ := and3 (x := op == op') (y := okE scope l l') (z := okE scope r r') h
    obtain rfl : op = op' := eq_of_beq h1
    have p : PostD O base (envOf name scope L a cd :: outer) s ((pev C ρ l).bind fun a => (pev C ρ r).bind fun b => pbin op a b) Q E := p
    refine wpAny_BinOp (hl l' s _ h2 S (Post.bind p fun d v h' tk' _ g r₁ p' => ?_))
    refine hr r' _ _ h3 (S.grow g) (Post.bind p' fun d2 v2 h2 tk2 _ g2 r₂ p2 => ?_)
    exact pbin_ok g2.bs ((S.grow g).grow g2).al1 (((S.grow g).grow g2).tpos X) (r₁.carry (.ext g2.ext O) g2.tk) r₂ p2
  | _ => exact (Bool.false_ne_true h).elim

theorem ev_un (X : CxE prog w base0 mg mb t0 n C A base hE name scope L a cd outer) {x : QE} (hx : EvE prog w base0 t0 C A base hE name scope L a cd outer O₀ ρ m O E x) :
    EvE prog w base0 t0 C A base hE name scope L a cd outer O₀ ρ m O E (.neg x) ∧ EvE prog w base0 t0 C A base hE name scope L a cd outer O₀ ρ m O E (.not x) := by
  constructor
  · intro e s Q h S p
    cases e with
    | UnaryOp op x' pos =>
      obtain ⟨h1, h2⟩ := and2 (x := op == .USub) (y := okE scope x x') h
      obtain rfl : op = .USub := eq_of_beq h1
      have p : PostD O base (envOf name scope L a cd :: outer) s ((pev C ρ x).bind fun a => (pint? a).bind fun i => .ok (.int (-i))) Q E := p
      refine wpAny_UnaryOp (hx x' s _ h2 S (Post.bind p fun d v h' tk' _ g r₁ p' => ?_))
      obtain ⟨i, rfl, p''⟩ := pint_of p'
      obtain ⟨t, rfl⟩ := r₁
      exact P.neg_int (p'' _ _ _ (Grow.toks g.bs 1) ⟨_, rfl⟩)
    | _ => exact (Bool.false_ne_true h).elim
  · intro e s Q h S p
    cases e with
    | UnaryOp op x' pos =>
      obtain ⟨h1, h2⟩ := and2 (x := op == .Not) (y := okE scope x x') h
      obtain rfl : op = .Not := eq_of_beq h1
      have p : PostD O base (envOf name scope L a cd :: outer) s ((pev C ρ x).bind fun a => (pbool? a).bind fun b => .ok (.bool (!b))) Q E := p
      refine wpAny_UnaryOp (hx x' s _ h2 S (Post.bind p fun d v h' tk' _ g r₁ p' => ?_))
      obtain ⟨b, rfl, p''⟩ := pbool_of p'
      obtain rfl : v = .bool b := r₁
      show wpAny _ _ (do return Value.bool (!(← truthy (.bool b))) : Sem Value) _ _ _
      exact wpAny_bind (wpAny_truthy_bool (wpAny_pure (p'' _ _ _ (.refl g.bs) rfl)))
    | _ => exact (Bool.false_ne_true h).elim

/-- a comparison, its sides evaluated; also under a test -/
theorem cmp_ok (X : CxE prog w base0 mg mb t0 n C A base hE name scope L a cd outer) {op : CmpOp} {l r : QE} (hl : EvE prog w base0 t0 C A base hE name scope L a cd outer O₀ ρ m O E l) (hr : EvE prog w base0 t0 C A base hE name scope L a cd outer O₀ ρ m O E r)
    {e : Expr} {s : Shared} {K : Value → Shared → Prop} (h : okE scope (.cmp op l r) e = true) (S : St base0 base hE O₀ L scope.names t0 ρ s m O)
    (p : PostD O base (envOf name scope L a cd :: outer) s (pev C ρ (.cmp op l r)) K E) :
    ∃ l' r' pos, e = .Compare l' [op] [r'] pos ∧ wpAny (model prog w) A (eval l' (envOf name scope L a cd)) (fun a₁ s₁ => wpAny (model prog w) A (eval r' (envOf name scope L a cd)) (fun b s₂ => wpAny (model prog w) A (compareOp op a₁ b) K E s₂) E s₁) E s ∧ behindInMarks op r' = false := by
  cases e with
  | Compare l' ops rs pos =>
    obtain ⟨h1, h2, h3⟩ := and3 (x := ops == [op]) (y := okE scope l l') (z := oB (one? rs) fun r' => okE scope r r') h
    obtain rfl : ops = [op] := eq_of_beq h1
    obtain ⟨r', h4, h5⟩ := opt_of h3
    obtain rfl := ofOne h4
    have p : PostD O base (envOf name scope L a cd :: outer) s ((pev C ρ l).bind fun a => (pev C ρ r).bind fun b => pcmp op a b) K E := p
    refine ⟨l', r', pos, rfl, hl l' s _ h2 S (Post.bind p fun d v h' tk' _ g r₁ p' => ?_), bm_pev (okE_not h5).1⟩
    refine hr r' _ _ h5 (S.grow g) (Post.bind p' fun d2 v2 h2 tk2 _ g2 r₂ p2 => ?_)
    exact pcmp_ok g2.bs X.units (r₁.carry (.ext g2.ext O) g2.tk) r₂ p2
  | _ => exact (Bool.false_ne_true h).elim

theorem ty_ok (X : CxE prog w base0 mg mb t0 n C A base hE name scope L a cd outer) {x : QE} {t : String} (hx : EvE prog w base0 t0 C A base hE name scope L a cd outer O₀ ρ m O E x)
    {e : Expr} {s : Shared} {K : Value → Shared → Prop} (h : okE scope (.ty x t) e = true) (S : St base0 base hE O₀ L scope.names t0 ρ s m O)
    (p : PostD O base (envOf name scope L a cd :: outer) s (pev C ρ (.ty x t)) K E) :
    ∃ l' r' pos, e = .Compare l' [.Is] [r'] pos ∧ wpAny (model prog w) A (eval l' (envOf name scope L a cd)) (fun a₁ s₁ => wpAny (model prog w) A (eval r' (envOf name scope L a cd)) (fun b s₂ => wpAny (model prog w) A (compareOp .Is a₁ b) K E s₂) E s₁) E s ∧ behindInMarks .Is r' = false := by
  cases e with
  | Compare l' ops rs pos =>
    have h : (ops == [.Is] && isG scope t && isG scope "type" && (oB (one? rs) fun r => isN r t) && o2B (call? l') fun f as => f == Str.ofString "type" && oB (one? as) fun a => okE scope x a) = true := h
    obtain ⟨h, h5⟩ := and2 h
    obtain ⟨h, h4⟩ := and2 h
    obtain ⟨h1, h2, h3⟩ := and3 h
    obtain rfl : ops = [.Is] := eq_of_beq h1
    obtain ⟨r', h6, h7⟩ := opt_of h4
    obtain rfl := ofOne h6
    obtain ⟨rp, rfl⟩ := ofN h7
    obtain ⟨f, as, h8, h9⟩ := opt2_of h5
    obtain ⟨np, cp, rfl⟩ := ofCall h8
    obtain ⟨h10, h11⟩ := and2 h9
    obtain rfl : f = _ := eq_of_beq h10
    obtain ⟨y, h12, h13⟩ := opt_of h11
    obtain rfl := ofOne h12
    have p : PostD O base (envOf name scope L a cd :: outer) s ((pev C ρ x).bind fun d => isType d (Str.ofString t)) K E := p
    refine ⟨_, _, _, rfl, ?_, bm_is _⟩
    refine wpAny_Call_ofName (load_blt X S (ofGk h3) bltOf_type ?_)
    rw [starEach_plain _ (okE_not h13).2.2.1, backTo_trees]
    refine PySem.callWith_type (any_trees _ _) (evalArgs_trees (Calls.spliced_cons (hx y s _ h13 S (Post.bind p fun d v h' tk' _ g r₁ p' => Calls.spliced_nil ?_))))
    obtain ⟨T, T', k1, k2, k3, k4⟩ := isType_ok (prog := prog) (w := w) (A := A) g.bs r₁ p'
    exact call_type_of k1 k2 (load_blt X (S.grow g) (ofGk h2) k3 k4)
  | _ => exact (Bool.false_ne_true h).elim

theorem ev_seq (X : CxE prog w base0 mg mb t0 n C A base hE name scope L a cd outer) {x : QE} (hx : EvL prog w base0 t0 C A base hE name scope L a cd outer O₀ ρ m O E x) :
    EvE prog w base0 t0 C A base hE name scope L a cd outer O₀ ρ m O E (.tup x) ∧ EvE prog w base0 t0 C A base hE name scope L a cd outer O₀ ρ m O E (.lst x) := by
  constructor
  · intro e s Q h S p
    cases e with
    | Tuple es k pos =>
      have p : PostD O base (envOf name scope L a cd :: outer) s ((pevs C ρ x).bind fun ds => if ds.length ≤ LIM then .ok (.tuple ds) else .bad) Q E := p
      refine wpAny_Tuple_spliced ?_
      rw [starEach_plain _ (okL_star (q := x) h), backTo_trees]
      refine hx es s _ h S (Post.bind p fun ds vs h' tk' _ g r₁ p' => ?_)
      obtain ⟨hle, p2⟩ := if_of p'
      exact ⟨by rw [r₁.length, sizeLine_is]; exact hle, p2 _ _ _ ⟨.push _ _, staysIn_push g.bs _, Nat.le_refl _⟩ (rep_newTuple (S.grow g).al1 r₁ (Nat.le_refl _))⟩
    | _ => exact (Bool.false_ne_true h).elim
  · intro e s Q h S p
    cases e with
    | List es pos =>
      have p : PostD O base (envOf name scope L a cd :: outer) s ((pevs C ρ x).bind fun ds => if ds.length ≤ LIM then .ok (.list ds) else .bad) Q E := p
      refine wpAny_List_spliced ?_
      rw [starEach_plain _ (okL_star (q := x) h), backTo_trees]
      refine hx es s _ h S (Post.bind p fun ds vs h' tk' _ g r₁ p' => ?_)
      obtain ⟨hle, p2⟩ := if_of p'
      exact ⟨by rw [r₁.length, sizeLine_is]; exact hle, p2 _ _ _ ⟨.push _ _, staysIn_push g.bs _, Nat.le_refl _⟩ (rep_newList (S.grow g).al1 r₁ (Nat.le_refl _))⟩
    | _ => exact (Bool.false_ne_true h).elim

theorem ev_sub (X : CxE prog w base0 mg mb t0 n C A base hE name scope L a cd outer) {v i : QE} (hv : EvE prog w base0 t0 C A base hE name scope L a cd outer O₀ ρ m O E v) (hi : EvE prog w base0 t0 C A base hE name scope L a cd outer O₀ ρ m O E i) :
    EvE prog w base0 t0 C A base hE name scope L a cd outer O₀ ρ m O E (.sub v i) := by
  intro e s Q h S p
  cases e with
  | Subscript v' sl pos =>
    obtain ⟨h1, h2⟩ := and2 (x := okE scope v v') (y := okE scope i sl) h
    have p : PostD O base (envOf name scope L a cd :: outer) s ((pev C ρ v).bind fun a => (pev C ρ i).bind fun b => (pint? b).bind fun i => pitem a i) Q E := p
    refine Subscript_ (hv v' s _ h1 S (Post.bind p fun d x h' tk' _ g r₁ p' => ?_))
    refine hi sl _ _ h2 (S.grow g) (Post.bind p' fun d2 v2 h2' tk2 _ g2 r₂ p2 => ?_)
    obtain ⟨i, rfl, p3⟩ := pint_of p2
    obtain ⟨t, rfl⟩ := r₂
    exact pitem_ok g2.bs (((S.grow g).grow g2).tpos X) (fun lo hi q e => (okE_not h2).2.2.2 lo hi none q e) (r₁.carry (.ext g2.ext O) g2.tk) p3
  | _ => exact (Bool.false_ne_true h).elim

theorem ev_cut (X : CxE prog w base0 mg mb t0 n C A base hE name scope L a cd outer) {v lo hi : QE} (hv : EvE prog w base0 t0 C A base hE name scope L a cd outer O₀ ρ m O E v) (hlo : EvO prog w base0 t0 C A base hE name scope L a cd outer O₀ ρ m O E lo) (hhi : EvO prog w base0 t0 C A base hE name scope L a cd outer O₀ ρ m O E hi) :
    EvE prog w base0 t0 C A base hE name scope L a cd outer O₀ ρ m O E (.cut v lo hi) := by
  intro e s Q h S p
  cases e with
  | Subscript v' sl pos =>
    cases sl with
    | Slice lo' hi' st sp =>
      obtain ⟨h1, h2⟩ := and2 (x := okE scope v v') (y := st.isNone && okO scope lo lo' && okO scope hi hi') h
      obtain ⟨h3, h4, h5⟩ := and3 h2
      obtain rfl : st = none := Option.isNone_iff_eq_none.mp h3
      have p : PostD O base (envOf name scope L a cd :: outer) s ((pev C ρ v).bind fun a => (peo C ρ lo).bind fun i => (peo C ρ hi).bind fun j => pcut a i j) Q E := p
      refine Subscript_ (hv v' s _ h1 S (Post.bind p fun d x h' tk' _ g r₁ p' => ?_))
      refine wpAny_Slice (hlo lo' _ _ h4 (S.grow g) (Post.bind p' fun i vl h2 tk2 _ g2 r₂ p2 => ?_))
      refine hhi hi' _ _ h5 ((S.grow g).grow g2) (Post.bind p2 fun j vu h3 tk3 _ g3 r₃ p3 => ?_)
      rw [evalPart_none]
      refine wpAny_pure ?_
      have S3 := ((S.grow g).grow g2).grow g3
      exact pcut_ok g3.bs S3.al1 (S3.tpos X) ((r₁.carry (.ext g2.ext O) g2.tk).carry (.ext g3.ext O) g3.tk) r₂ r₃ p3
    | _ => exact (Bool.false_ne_true (and2 (x := okE scope v v') (y := false) h).2).elim
  | _ => exact (Bool.false_ne_true h).elim

theorem ev_meth (X : CxE prog w base0 mg mb t0 n C A base hE name scope L a cd outer) {mm : MM} {o y : QE} (ho : EvE prog w base0 t0 C A base hE name scope L a cd outer O₀ ρ m O E o) (hy : EvE prog w base0 t0 C A base hE name scope L a cd outer O₀ ρ m O E y) :
    EvE prog w base0 t0 C A base hE name scope L a cd outer O₀ ρ m O E (.meth mm o y) := by
  intro e s Q h S p
  obtain ⟨o', nn, as, h1, h2⟩ := opt3_of (o := meth? e) (f := fun o' nn as => nn == mm.nm && okE scope o o' && oB (one? as) fun a => okE scope y a) h
  obtain ⟨ap, cp, rfl, h3, h4⟩ := ofMeth h1
  obtain ⟨h5, h6, h7⟩ := and3 h2
  obtain rfl : nn = _ := eq_of_beq h5
  obtain ⟨y', h8, h9⟩ := opt_of h7
  obtain rfl := ofOne h8
  exact meth_ok X ho hy h6 h9 h3 h4 S p

theorem ev_replC (X : CxE prog w base0 mg mb t0 n C A base hE name scope L a cd outer) {o y : QE} {c : Str} (ho : EvE prog w base0 t0 C A base hE name scope L a cd outer O₀ ρ m O E o) (hy : EvE prog w base0 t0 C A base hE name scope L a cd outer O₀ ρ m O E y) :
    EvE prog w base0 t0 C A base hE name scope L a cd outer O₀ ρ m O E (.replC o y c) := by
  intro e s Q h S p
  obtain ⟨o', nn, as, h1, h2⟩ := opt3_of (o := meth? e) (f := fun o' nn as => nn == Str.ofString "replace" && okE scope o o' && o2B (two? as) fun y' z' => okE scope y y' && cst? z' == some c) h
  obtain ⟨ap, cp, rfl, h3, h4⟩ := ofMeth h1
  obtain ⟨h5, h6, h7⟩ := and3 h2
  obtain rfl : nn = _ := eq_of_beq h5
  obtain ⟨y', z', h8, h9⟩ := opt2_of h7
  obtain rfl := ofTwo h8
  obtain ⟨h10, h11⟩ := and2 h9
  obtain ⟨ck, cpos, rfl, hk⟩ := ofCst (eq_of_beq h11)
  refine repl_obj X ho h6 (noStar_two (okE_not h10).2.2.1 rfl) h3 h4 S p fun x t h' tk' g t1 t2 t3 p2 => ?_
  refine Calls.spliced_cons (hy y' _ _ h10 (S.grow g) (Post.bind p2 fun d2 v2 h2 tk2 _ g2 r₂ p3 => ?_))
  obtain ⟨yy, rfl, p4⟩ := pstr_of p3
  obtain ⟨u, rfl, u1, u2, u3⟩ := r₂
  refine Calls.spliced_cons (wpAny_Constant_str (Calls.spliced_nil ?_))
  have S2 := (S.grow g).grow g2
  have g3 := Grow.toks (s := { s with heap := h2, toks := tk2 }) g2.bs 1
  have e1 : tk' ≤ tk2 := g2.tk
  have e0 : 0 < tk2 := S2.tpos X
  exact repl_ok g3.bs (Nat.succ_pos _) t1 (Nat.lt_succ_of_lt (Nat.lt_of_lt_of_le t2 e1)) (Nat.ne_of_gt u1) (Nat.ne_of_gt e0) (Nat.ne_of_lt u2) t3 hk (Post.later g3 p4)

theorem ev_replV (X : CxE prog w base0 mg mb t0 n C A base hE name scope L a cd outer) {o : QE} {c : Str} {z : String} (ho : EvE prog w base0 t0 C A base hE name scope L a cd outer O₀ ρ m O E o) :
    EvE prog w base0 t0 C A base hE name scope L a cd outer O₀ ρ m O E (.replV o c z) := by
  intro e s Q h S p
  obtain ⟨o', nn, as, h1, h2⟩ := opt3_of (o := meth? e) (f := fun o' nn as => nn == Str.ofString "replace" && okE scope o o' && o2B (two? as) fun y' z' => cst? y' == some c && isN z' z) h
  obtain ⟨ap, cp, rfl, h3, h4⟩ := ofMeth h1
  obtain ⟨h5, h6, h7⟩ := and3 h2
  obtain rfl : nn = _ := eq_of_beq h5
  obtain ⟨y', z', h8, h9⟩ := opt2_of h7
  obtain rfl := ofTwo h8
  obtain ⟨h10, h11⟩ := and2 h9
  obtain ⟨ck, cpos, rfl, hk⟩ := ofCst (eq_of_beq h10)
  obtain ⟨zp, rfl⟩ := ofN h11
  obtain ⟨zz, hz, p⟩ := pstrV_of (f := fun zz => (pev C ρ o).bind fun a => (pstr? a).bind fun x => prepl x c zz) p
  refine repl_obj X ho h6 rfl h3 h4 S p fun x t h' tk' g t1 t2 t3 p2 => ?_
  have S1 := S.grow g
  obtain ⟨vz, k1, uz, rfl, z1, z2, z3⟩ := S1.dat _ _ hz
  have hl := S.loc _ _ hz
  refine Calls.spliced_cons (wpAny_Constant_str ?_)
  have g3 := Grow.toks (s := { s with heap := h', toks := tk' }) g.bs 1
  refine Calls.spliced_cons (wpAny_Name (wpAny_loadName_local X.kind hl (S1.grow g3).ns k1 (Calls.spliced_nil ?_)) (name_dbg X hl))
  have e0 : 0 < tk' := S1.tpos X
  have e2 : uz < tk' := z2
  exact repl_ok g3.bs (Nat.succ_pos _) t1 (Nat.lt_succ_of_lt t2) (Nat.ne_of_gt e0) (Nat.ne_of_gt z1) (Nat.ne_of_gt z2) t3 z3 (Post.later g3 p2)

theorem ev_replD (X : CxE prog w base0 mg mb t0 n C A base hE name scope L a cd outer) {o y : QE} {z₁ z₂ : String} (ho : EvE prog w base0 t0 C A base hE name scope L a cd outer O₀ ρ m O E o) (hy : EvE prog w base0 t0 C A base hE name scope L a cd outer O₀ ρ m O E y) :
    EvE prog w base0 t0 C A base hE name scope L a cd outer O₀ ρ m O E (.replD o y z₁ z₂) := by
  intro e s Q h S p
  obtain ⟨o', nn, as, h1, h2⟩ := opt3_of (o := meth? e) (f := fun o' nn as => nn == Str.ofString "replace" && okE scope o o' && o2B (two? as) fun y' z' => okE scope y y' && isSum z' z₁ z₂) h
  obtain ⟨ap, cp, rfl, h3, h4⟩ := ofMeth h1
  obtain ⟨h5, h6, h7⟩ := and3 h2
  obtain rfl : nn = _ := eq_of_beq h5
  obtain ⟨y', z', h8, h9⟩ := opt2_of h7
  obtain rfl := ofTwo h8
  obtain ⟨h10, h11⟩ := and2 h9
  cases z' with
  | BinOp za op zb bp =>
    obtain ⟨q1, q2, q3⟩ := and3 (x := op == .Add) (y := isN za z₁) (z := isN zb z₂) h11
    obtain rfl : op = .Add := eq_of_beq q1
    obtain ⟨zp1, rfl⟩ := ofN q2
    obtain ⟨zp2, rfl⟩ := ofN q3
    obtain ⟨s1, hz1, p⟩ := pstrV_of (f := fun s1 => (pstrV (ρ (Str.ofString z₂))).bind fun s2 => if 0 < s1.length ∧ 0 < s2.length ∧ s1.length + s2.length ≤ LIM then (pev C ρ o).bind fun a => (pstr? a).bind fun x => (pev C ρ y).bind fun b => (pstr? b).bind fun yy => prepl x yy (s1 ++ s2) else .bad) p
    obtain ⟨s2, hz2, p⟩ := pstrV_of p
    obtain ⟨hk, p⟩ := if_of p
    refine repl_obj X ho h6 (noStar_two (okE_not h10).2.2.1 rfl) h3 h4 S p fun x t h' tk' g t1 t2 t3 p2 => ?_
    refine Calls.spliced_cons (hy y' _ _ h10 (S.grow g) (Post.bind p2 fun d2 v2 h2 tk2 _ g2 r₂ p3 => ?_))
    obtain ⟨yy, rfl, p4⟩ := pstr_of p3
    obtain ⟨u, rfl, u1, u2, u3⟩ := r₂
    have S2 := (S.grow g).grow g2
    refine Calls.spliced_cons (wpAny_BinOp (load_dat X S2 hz1 fun va ra => load_dat X S2 hz2 fun vb rb => ?_))
    obtain ⟨ta, rfl, a1, a2, a3⟩ := ra
    obtain ⟨tb, rfl, b1, b2, b3⟩ := rb
    refine P.add_str ?_
    rw [if_neg (by simp; omega), if_neg (by simp; omega)]
    refine ⟨by rw [Str.length_append, sizeLine_is]; exact hk.2.2, Calls.spliced_nil ?_⟩
    have g3 := Grow.toks (s := { s with heap := h2, toks := tk2 }) g2.bs 1
    have e1 : tk' ≤ tk2 := g2.tk
    have e0 : 0 < tk2 := S2.tpos X
    exact repl_ok g3.bs (Nat.succ_pos _) t1 (Nat.lt_succ_of_lt (Nat.lt_of_lt_of_le t2 e1)) (Nat.ne_of_gt u1) (Nat.ne_of_gt e0) (Nat.ne_of_lt u2) t3 (ok_append a3 b3) (Post.later g3 p4)
  | _ => exact (Bool.false_ne_true h11).elim

theorem ev_call (X : CxE prog w base0 mg mb t0 n C A base hE name scope L a cd outer) {f : String} {x : QE} (hx : EvL prog w base0 t0 C A base hE name scope L a cd outer O₀ ρ m O E x) :
    EvE prog w base0 t0 C A base hE name scope L a cd outer O₀ ρ m O E (.call f x) := by
  intro e s Q h S p
  obtain ⟨f', as, h1, h2⟩ := opt2_of (o := call? e) (f := fun f' as => f' == Str.ofString f && isG scope f && okL scope x as) h
  obtain ⟨np, cp, rfl⟩ := ofCall h1
  obtain ⟨h5, h6, h7⟩ := and3 h2
  obtain rfl : f' = _ := eq_of_beq h5
  exact calld_ok X S (ofGk h6) (okL_star h7) (fun s Q S p => hx as s Q h7 S p) p

theorem blt1_of {e : Expr} {f : String} {k : Expr → Bool} (h : (o2B (call? e) fun f' as => f' == Str.ofString f && isG scope f && oB (one? as) fun a => k a) = true) :
    ∃ np cp y, e = .Call (.Name (Str.ofString f) np) [y] [] cp ∧ scope.names.lookup (Str.ofString f) = some .globalImplicit ∧ k y = true := by
  obtain ⟨f', as, h1, h2⟩ := opt2_of (o := call? e) (f := fun f' as => f' == Str.ofString f && isG scope f && oB (one? as) fun a => k a) h
  obtain ⟨np, cp, rfl⟩ := ofCall h1
  obtain ⟨h5, h6, h7⟩ := and3 h2
  obtain rfl : f' = _ := eq_of_beq h5
  obtain ⟨y, h8, h9⟩ := opt_of h7
  obtain rfl := ofOne h8
  exact ⟨np, cp, y, rfl, ofGk h6, h9⟩

theorem ev_len (X : CxE prog w base0 mg mb t0 n C A base hE name scope L a cd outer) {x : QE} (hx : EvE prog w base0 t0 C A base hE name scope L a cd outer O₀ ρ m O E x) :
    EvE prog w base0 t0 C A base hE name scope L a cd outer O₀ ρ m O E (.len x) ∧ EvE prog w base0 t0 C A base hE name scope L a cd outer O₀ ρ m O E (.lis x) := by
  constructor
  · intro e s Q h S p
    obtain ⟨np, cp, y, rfl, h1, h2⟩ := blt1_of (f := "len") (k := okE scope x) h
    have p : PostD O base (envOf name scope L a cd :: outer) s ((pev C ρ x).bind plen) Q E := p
    refine wpAny_Call_ofName (load_blt X S h1 bltOf_len ?_)
    rw [starEach_plain _ (okE_not h2).2.2.1, backTo_trees]
    exact Calls.callWith_builtin (any_trees _ _) (evalArgs_trees (Calls.spliced_cons (hx y s _ h2 S (Post.bind p fun d v h' tk' _ g r p' => Calls.spliced_nil (plen_ok g.bs r p')))))
  · intro e s Q h S p
    obtain ⟨np, cp, y, rfl, h1, h2⟩ := blt1_of (f := "list") (k := okE scope x) h
    have p : PostD O base (envOf name scope L a cd :: outer) s ((pev C ρ x).bind plist) Q E := p
    refine wpAny_Call_ofName (load_blt X S h1 bltOf_list ?_)
    rw [starEach_plain _ (okE_not h2).2.2.1, backTo_trees]
    exact PySem.callWith_type (any_trees _ _) (evalArgs_trees (Calls.spliced_cons (hx y s _ h2 S (Post.bind p fun d v h' tk' _ g r p' => Calls.spliced_nil (plist_ok g.bs (S.grow g).al1 r p')))))

theorem ev_lenO (X : CxE prog w base0 mg mb t0 n C A base hE name scope L a cd outer) {x : String} : EvE prog w base0 t0 C A base hE name scope L a cd outer O₀ ρ m O E (.lenO x) := by
  intro e s Q h S p
  obtain ⟨np, cp, y, rfl, h1, h2⟩ := blt1_of (f := "len") (k := fun y => isN y x) h
  obtain ⟨yp, rfl⟩ := ofN h2
  have p : PostD O base (envOf name scope L a cd :: outer) s (plenO (ρ (Str.ofString x))) Q E := p
  refine wpAny_Call_ofName (load_blt X S h1 bltOf_len ?_)
  rw [starEach_plain _ (show noStar [Expr.Name (Str.ofString x) yp] = true from rfl), backTo_trees]
  cases hv : ρ (Str.ofString x) with
  | none => rw [hv] at p; exact p.elim
  | some v =>
    rw [hv] at p
    cases v with
    | dat d => exact Calls.callWith_builtin (any_trees _ _) (evalArgs_trees (Calls.spliced_cons (load_dat X S hv fun v r => Calls.spliced_nil (plen_ok S.bs r p))))
    | own ds =>
      obtain ⟨hle, p⟩ := if_of (o := Out.ok (PyData.int ds.length)) p
      refine Calls.callWith_builtin (any_trees _ _) (evalArgs_trees (Calls.spliced_cons (load_own X S hv fun b _ _ _ _ ho => Calls.spliced_nil ?_)))
      obtain ⟨vs, k, sl, k1, k2⟩ := ho
      have hn := k2.length
      simp only [Array.length_toList] at hn
      have hL : LIM = 16777216 := rfl
      refine len_list ⟨_, k1, rfl, _, rfl⟩ (by omega) ?_
      rw [hn]
      exact p _ s.heap (s.toks + 1 + 1) ⟨.refl _, S.bs, by omega⟩ ⟨s.toks + 1, rfl⟩

theorem ev_tab (X : CxE prog w base0 mg mb t0 n C A base hE name scope L a cd outer) {x : String} : EvE prog w base0 t0 C A base hE name scope L a cd outer O₀ ρ m O E (.tab x) := by
  intro e s Q h S p
  obtain ⟨h1, h2⟩ := and2 (x := isN e x) (y := isG scope x) h
  obtain ⟨pos, rfl⟩ := ofN h1
  have p : PostD O base (envOf name scope L a cd :: outer) s (ptab (C.G (Str.ofString x))) Q E := p
  cases hd : C.G (Str.ofString x) with
  | none => rw [hd] at p; exact p.elim
  | some d =>
    rw [hd] at p
    obtain ⟨v, h3, h4⟩ := X.glo.data _ d hd
    exact load_glob X S (ofGk h2) h3 (p _ _ _ (.refl S.bs) (h4.carry (carry_base X S) S.tk))

theorem ev_bo {op : BoolOp} {x : QE} (hx : EvB prog w base0 t0 C A base hE name scope L a cd outer O₀ ρ m O E x) : EvE prog w base0 t0 C A base hE name scope L a cd outer O₀ ρ m O E (.bo op x) := by
  intro e s Q h S p
  cases e with
  | BoolOp op' es pos =>
    obtain ⟨h1, h2⟩ := and2 (x := op == op') (y := okL scope x es) h
    obtain rfl : op = op' := eq_of_beq h1
    rw [arm_eval_BoolOp]
    exact hx op es s Q pos h2 S p
  | _ => exact (Bool.false_ne_true h).elim

theorem ev_cons (X : CxE prog w base0 mg mb t0 n C A base hE name scope L a cd outer) {q r : QE} (hq : EvAll prog w base0 t0 C A base hE name scope L a cd outer O₀ ρ m O E q) (hr : EvAll prog w base0 t0 C A base hE name scope L a cd outer O₀ ρ m O E r) :
    EvAll prog w base0 t0 C A base hE name scope L a cd outer O₀ ρ m O E (.cons q r) := by
  refine ⟨fun e _ _ h => (Bool.false_ne_true h).elim, ?_, fun o _ _ h => (Bool.false_ne_true h).elim, ?_⟩
  · intro es s Q h S p
    cases es with
    | nil => exact (Bool.false_ne_true h).elim
    | cons e es =>
      obtain ⟨h1, h2⟩ := and2 (x := okE scope q e) (y := okL scope r es) h
      have p : PostL O base (envOf name scope L a cd :: outer) s ((pev C ρ q).bind fun d => (pevs C ρ r).bind fun ds => .ok (d :: ds)) Q E := p
      refine Calls.spliced_cons (hq.e e s _ h1 S (Post.bind p fun d v h' tk' _ g r₁ p' => ?_))
      refine hr.l es _ _ h2 (S.grow g) (Post.bind p' fun ds vs h2 tk2 _ g2 r₂ p2 => ?_)
      exact p2 _ _ _ (.refl g2.bs) ⟨v, vs, rfl, r₁.carry (.ext g2.ext O) g2.tk, r₂⟩
  · intro op es s Q pos h S p
    cases es with
    | nil => exact (Bool.false_ne_true h).elim
    | cons e es =>
      obtain ⟨h1, h2⟩ := and2 (x := okE scope q e) (y := okL scope r es) h
      have p : PostD O base (envOf name scope L a cd :: outer) s ((pev C ρ q).bind fun d => (pbool? d).bind fun b => if (stp op b || isNil r) = true then .ok (.bool b) else pbo C ρ op r) Q E := p
      cases es with
      | nil =>
        have hn : isNil r = true := by
          cases r with
          | nil => rfl
          | _ => exact (Bool.false_ne_true h2).elim
        refine hq.e e s _ h1 S (Post.bind p fun d v h' tk' _ g r₁ p' => ?_)
        obtain ⟨b, rfl, p2⟩ := pbool_of p'
        rw [hn, Bool.or_true, if_pos rfl] at p2
        exact p2 _ _ _ (.refl g.bs) r₁
      | cons e' es =>
        have hn : isNil r = false := by
          cases r with
          | nil => exact (Bool.false_ne_true h2).elim
          | _ => rfl
        show wpAny _ _ (boolOp pos op (eval e (envOf name scope L a cd) :: eval e' (envOf name scope L a cd) :: evalEach es (envOf name scope L a cd))) Q E s
        unfold boolOp
        refine wpAny_bind (hq.e e s _ h1 S (Post.bind p fun d v h' tk' _ g r₁ p' => ?_))
        obtain ⟨b, rfl, p2⟩ := pbool_of p'
        obtain rfl : v = .bool b := r₁
        rw [hn, Bool.or_false] at p2
        refine wpAny_bind (wpAny_standAt (wpAny_bind (wpAny_holding (wpAny_truthy_bool ?_))))
        cases op <;> cases b
        · exact wpAny_pure (p2 _ _ _ (.refl g.bs) rfl)
        · exact hr.b .And (e' :: es) _ _ pos h2 (S.grow g) p2
        · exact hr.b .Or (e' :: es) _ _ pos h2 (S.grow g) p2
        · exact wpAny_pure (p2 _ _ _ (.refl g.bs) rfl)

theorem ev_all (X : CxE prog w base0 mg mb t0 n C A base hE name scope L a cd outer) (q : QE) : EvAll prog w base0 t0 C A base hE name scope L a cd outer O₀ ρ m O E q := by
  induction q with
  | con d =>
    refine .of_e ?_ (fun _ => rfl) (fun _ => rfl)
    intro e s Q h S p
    cases e with
    | Constant c k pos => exact con_ok (d := d) h S.bs (S.tpos X) p
    | _ => exact (Bool.false_ne_true h).elim
  | var x =>
    refine .of_e ?_ (fun _ => rfl) (fun _ => rfl)
    intro e s Q h S p
    obtain ⟨pos, rfl⟩ := ofN h
    exact pvar_ok X S p
  | tab x => exact .of_e (ev_tab X) (fun _ => rfl) (fun _ => rfl)
  | bin op l r hl hr => exact .of_e (ev_bin X hl.e hr.e) (fun _ => rfl) (fun _ => rfl)
  | neg x hx => exact .of_e (ev_un X hx.e).1 (fun _ => rfl) (fun _ => rfl)
  | not x hx => exact .of_e (ev_un X hx.e).2 (fun _ => rfl) (fun _ => rfl)
  | bo op x hx => exact .of_e (ev_bo hx.b) (fun _ => rfl) (fun _ => rfl)
  | cmp op l r hl hr =>
    refine .of_e (fun e s Q h S p => ?_) (fun _ => rfl) (fun _ => rfl)
    obtain ⟨l', r', pos, rfl, h1, h2⟩ := cmp_ok X hl.e hr.e h S p
    exact wpAny_Compare1 h1 h2
  | ty x t hx =>
    refine .of_e (fun e s Q h S p => ?_) (fun _ => rfl) (fun _ => rfl)
    obtain ⟨l', r', pos, rfl, h1, h2⟩ := ty_ok X hx.e h S p
    exact wpAny_Compare1 h1 h2
  | tup x hx => exact .of_e (ev_seq X hx.l).1 (fun _ => rfl) (fun _ => rfl)
  | lst x hx => exact .of_e (ev_seq X hx.l).2 (fun _ => rfl) (fun _ => rfl)
  | sub v i hv hi => exact .of_e (ev_sub X hv.e hi.e) (fun _ => rfl) (fun _ => rfl)
  | cut v lo hi hv hlo hhi => exact .of_e (ev_cut X hv.e hlo.o hhi.o) (fun _ => rfl) (fun _ => rfl)
  | meth mm o y ho hy => exact .of_e (ev_meth X ho.e hy.e) (fun _ => rfl) (fun _ => rfl)
  | replC o y c ho hy => exact .of_e (ev_replC X ho.e hy.e) (fun _ => rfl) (fun _ => rfl)
  | replV o c z ho => exact .of_e (ev_replV X ho.e) (fun _ => rfl) (fun _ => rfl)
  | replD o y z₁ z₂ ho hy => exact .of_e (ev_replD X ho.e hy.e) (fun _ => rfl) (fun _ => rfl)
  | call f x hx => exact .of_e (ev_call X hx.l) (fun _ => rfl) (fun _ => rfl)
  | len x hx => exact .of_e (ev_len X hx.e).1 (fun _ => rfl) (fun _ => rfl)
  | lenO x => exact .of_e (ev_lenO X) (fun _ => rfl) (fun _ => rfl)
  | lis x hx => exact .of_e (ev_len X hx.e).2 (fun _ => rfl) (fun _ => rfl)
  | nil =>
    refine ⟨fun e _ _ h => (Bool.false_ne_true h).elim, ?_, fun o _ _ h => (Bool.false_ne_true h).elim, fun _ _ _ _ _ _ _ p => p.elim⟩
    intro es s Q h S p
    obtain rfl : es = [] := List.isEmpty_iff.mp h
    exact Calls.spliced_nil (p _ _ _ (.refl S.bs) rfl)
  | cons q r hq hr => exact ev_cons X hq hr
  | no =>
    refine ⟨fun e _ _ h => (Bool.false_ne_true h).elim, fun es _ _ h => (Bool.false_ne_true h).elim, ?_, fun _ _ _ _ _ h => (Bool.false_ne_true h).elim⟩
    intro o s Q h S p
    obtain rfl : o = none := Option.isNone_iff_eq_none.mp h
    rw [evalPart_none]
    exact wpAny_pure (p _ _ _ (.refl S.bs) rfl)
  | opt x hx =>
    refine ⟨fun e _ _ h => (Bool.false_ne_true h).elim, fun es _ _ h => (Bool.false_ne_true h).elim, ?_, fun _ _ _ _ _ h => (Bool.false_ne_true h).elim⟩
    intro o s Q h S p
    cases o with
    | none => exact (Bool.false_ne_true h).elim
    | some e =>
      have p : PostO base (envOf name scope L a cd :: outer) s ((pev C ρ x).bind fun d => (pint? d).bind fun i => .ok (some i)) Q E := p
      rw [evalPart_some]
      refine hx.e e s _ h S (Post.bind p fun d v h' tk' _ g r₁ p' => ?_)
      obtain ⟨i, rfl, p2⟩ := pint_of p'
      exact p2 _ _ _ (.refl g.bs) r₁

theorem pev_ok (X : CxE prog w base0 mg mb t0 n C A base hE name scope L a cd outer) {q : QE} {e : Expr} (h : okE scope q e = true) (s : Shared) (Q : Value → Shared → Prop) (S : St base0 base hE O₀ L scope.names t0 ρ s m O)
    (p : PostD O base (envOf name scope L a cd :: outer) s (pev C ρ q) Q E) : wpAny (model prog w) A (eval e (envOf name scope L a cd)) Q E s := (ev_all X q).e e s Q h S p
theorem pevs_ok (X : CxE prog w base0 mg mb t0 n C A base hE name scope L a cd outer) {q : QE} {es : List Expr} (h : okL scope q es = true) (s : Shared) (Q : List Value → Shared → Prop) (S : St base0 base hE O₀ L scope.names t0 ρ s m O)
    (p : PostL O base (envOf name scope L a cd :: outer) s (pevs C ρ q) Q E) : wpAny (model prog w) A (spliced (trees es (envOf name scope L a cd))) Q E s := (ev_all X q).l es s Q h S p
end
end Mine

open PySem PyProof.Rows
set_option maxRecDepth 10000
namespace Mine
section
variable {prog : Program} {w : World} {base0 : Heap} {mg mb : Str → Option Value} {t0 n : Nat} {C : PC} {A : Around} {base hE : Heap} {name : Str} {scope : Scope} {L a : Addr} {cd : Value} {outer : List Env}
  {O₀ : Lent} {ρ : PE} {m : Str → Option Value} {O : List Addr} {E : Value → Shared → Prop}

theorem pbool_last {d : PyData} {s : Shared} {l : List Env} {Q : Bool → Shared → Prop} (bs : base.StaysIn s.heap) (p : PostB base l s (pbool? d) Q E) : ∃ b, d = .bool b ∧ Q b s := by
  cases d with
  | bool b => exact ⟨b, rfl, p _ _ _ (.refl bs) rfl⟩
  | _ => exact p.elim

/-- a test that is none of the short-cut ones -/
theorem test_plain (X : CxE prog w base0 mg mb t0 n C A base hE name scope L a cd outer) {q : QE} {e : Expr} {s : Shared} {Q : Bool → Shared → Prop} (h : okE scope q e = true)
    (hi : isTrue e (envOf name scope L a cd) (eval e (envOf name scope L a cd)) = (do let v ← eval e (envOf name scope L a cd); standAt e.pos; holding [v] (truthy v))) (S : St base0 base hE O₀ L scope.names t0 ρ s m O)
    (p : PostB base (envOf name scope L a cd :: outer) s ((pev C ρ q).bind pbool?) Q E) : wpAny (model prog w) A (isTrue e (envOf name scope L a cd) (eval e (envOf name scope L a cd))) Q E s := by
  rw [hi]
  refine wpAny_bind (pev_ok X h s _ S (Post.bind p fun d v h' tk' _ g r₁ p' => ?_))
  obtain ⟨b, rfl, q⟩ := pbool_last g.bs p'
  obtain rfl : v = .bool b := r₁
  exact wpAny_bind (wpAny_standAt (wpAny_holding (wpAny_truthy_bool q)))

theorem isTrue_call {f : Expr} {as : List Expr} {ks : List Keyword} {p : Pos} {env : Env} {whole : Sem Value} : isTrue (.Call f as ks p) env whole = (do let v ← whole; standAt p; holding [v] (truthy v)) := rfl

abbrev TeE (prog : Program) (w : World) (base0 : Heap) (t0 : Nat) (C : PC) (A : Around) (base hE : Heap) (name : Str) (scope : Scope) (L a : Addr) (cd : Value) (outer : List Env) (O₀ : Lent) (ρ : PE) (m : Str → Option Value) (O : List Addr) (E : Value → Shared → Prop) (q : QE) : Prop :=
  ∀ (e : Expr) (s : Shared) (Q : Bool → Shared → Prop), okE scope q e = true → St base0 base hE O₀ L scope.names t0 ρ s m O → PostB base (envOf name scope L a cd :: outer) s ((pev C ρ q).bind pbool?) Q E → wpAny (model prog w) A (isTrue e (envOf name scope L a cd) (eval e (envOf name scope L a cd))) Q E s
abbrev TeA (prog : Program) (w : World) (base0 : Heap) (t0 : Nat) (C : PC) (A : Around) (base hE : Heap) (name : Str) (scope : Scope) (L a : Addr) (cd : Value) (outer : List Env) (O₀ : Lent) (ρ : PE) (m : Str → Option Value) (O : List Addr) (E : Value → Shared → Prop) (q : QE) : Prop :=
  ∀ (op : BoolOp) (es : List Expr) (s : Shared) (Q : Bool → Shared → Prop), okL scope q es = true → St base0 base hE O₀ L scope.names t0 ρ s m O → PostB base (envOf name scope L a cd :: outer) s ((pbo C ρ op q).bind pbool?) Q E → wpAny (model prog w) A (allTrue op es (envOf name scope L a cd)) Q E s

/-- by what an expression can be, a test of it is plain -/
theorem isTrue_of {e : Expr} {env : Env} {whole : Sem Value} (h1 : un? e = none) (h2 : bo? e = none) (h3 : cmp? e = none) (h4 : ∀ t b o p, e ≠ .IfExp t b o p) : isTrue e env whole = (do let v ← whole; standAt e.pos; holding [v] (truthy v)) := by
  cases e with
  | UnaryOp op x p => exact nn h1.symm
  | BoolOp op vs p => exact nn h2.symm
  | Compare l ops cs p => exact nn h3.symm
  | IfExp t b o p => exact absurd rfl (h4 t b o p)
  | _ => rfl
theorem okE_if {q : QE} {e : Expr} (h : okE scope q e = true) : ∀ t b o p, e ≠ .IfExp t b o p := by
  rintro t b o p rfl
  cases q <;> exact Bool.false_ne_true h

theorem te_not (X : CxE prog w base0 mg mb t0 n C A base hE name scope L a cd outer) {x : QE} (hx : TeE prog w base0 t0 C A base hE name scope L a cd outer O₀ ρ m O E x) : TeE prog w base0 t0 C A base hE name scope L a cd outer O₀ ρ m O E (.not x) := by
  intro e s Q h S p
  cases e with
  | UnaryOp op x' pos =>
    obtain ⟨h1, h2⟩ := and2 (x := op == .Not) (y := okE scope x x') h
    obtain rfl : op = .Not := eq_of_beq h1
    have p : PostB base (envOf name scope L a cd :: outer) s (((pev C ρ x).bind fun a => (pbool? a).bind fun b => .ok (.bool (!b))).bind pbool?) Q E := p
    refine wpAny_isTrue_Not (hx x' s _ h2 S ?_)
    cases hq : pev C ρ x with
    | ok d =>
      rw [hq] at p
      cases d with
      | bool b => exact fun v h' tk' g r => by obtain rfl : v = b := r; exact p _ _ _ g rfl
      | _ => exact p.elim
    | exc => rw [hq] at p; exact p
    | bad => rw [hq] at p; exact p
  | _ => exact (Bool.false_ne_true h).elim

theorem te_bo {op : BoolOp} {x : QE} (hx : TeA prog w base0 t0 C A base hE name scope L a cd outer O₀ ρ m O E x) : TeE prog w base0 t0 C A base hE name scope L a cd outer O₀ ρ m O E (.bo op x) := by
  intro e s Q h S p
  cases e with
  | BoolOp op' es pos =>
    obtain ⟨h1, h2⟩ := and2 (x := op == op') (y := okL scope x es) h
    obtain rfl : op = op' := eq_of_beq h1
    exact wpAny_isTrue_BoolOp (hx op es s Q h2 S p)
  | _ => exact (Bool.false_ne_true h).elim

noncomputable def bstep : BoolOp → Bool → Out Bool → Out Bool
  | .And, false, _ => .ok false
  | .Or, true, _ => .ok true
  | _, _, o => o
theorem te_cons (X : CxE prog w base0 mg mb t0 n C A base hE name scope L a cd outer) {q r : QE} (hq : TeE prog w base0 t0 C A base hE name scope L a cd outer O₀ ρ m O E q) (hr : TeA prog w base0 t0 C A base hE name scope L a cd outer O₀ ρ m O E r) : TeA prog w base0 t0 C A base hE name scope L a cd outer O₀ ρ m O E (.cons q r) := by
  intro op es s Q h S p
  cases es with
  | nil => exact (Bool.false_ne_true h).elim
  | cons e es =>
    obtain ⟨h1, h2⟩ := and2 (x := okE scope q e) (y := okL scope r es) h
    have p : PostB base (envOf name scope L a cd :: outer) s (((pev C ρ q).bind fun d => (pbool? d).bind fun b => if (stp op b || isNil r) = true then .ok (.bool b) else pbo C ρ op r).bind pbool?) Q E := p
    have p2 : PostB base (envOf name scope L a cd :: outer) s (((pev C ρ q).bind pbool?).bind fun b => if (stp op b || isNil r) = true then .ok b else (pbo C ρ op r).bind pbool?) Q E := by
      cases hx : pev C ρ q with
      | ok d =>
        rw [hx] at p
        cases d with
        | bool b =>
          have p : PostB base (envOf name scope L a cd :: outer) s ((if (stp op b || isNil r) = true then Out.ok (.bool b) else pbo C ρ op r).bind pbool?) Q E := p
          show PostB base (envOf name scope L a cd :: outer) s (if (stp op b || isNil r) = true then .ok b else (pbo C ρ op r).bind pbool?) Q E
          by_cases hc : (stp op b || isNil r) = true
          · rw [if_pos hc] at p ⊢; exact p
          · rw [if_neg hc] at p ⊢; exact p
        | _ => exact p.elim
      | exc => rw [hx] at p; exact p
      | bad => rw [hx] at p; exact p
    clear p
    have key : ∀ (v : Bool) (s : Shared) (Q : Bool → Shared → Prop), St base0 base hE O₀ L scope.names t0 ρ s m O → PostB base (envOf name scope L a cd :: outer) s (if (stp op v || isNil r) = true then .ok v else (pbo C ρ op r).bind pbool?) Q E →
        stp op v = false → (es = [] ∧ Q v s) ∨ wpAny (model prog w) A (allTrue op es (envOf name scope L a cd)) Q E s := by
      intro v s Q S p hs
      rw [hs, Bool.false_or] at p
      cases es with
      | nil =>
        have hn : isNil r = true := by
          cases r with
          | nil => rfl
          | _ => exact (Bool.false_ne_true h2).elim
        rw [hn, if_pos rfl] at p
        exact .inl ⟨rfl, p _ _ _ (.refl S.bs) rfl⟩
      | cons e' es =>
        have hn : isNil r = false := by
          cases r with
          | nil => exact (Bool.false_ne_true h2).elim
          | _ => rfl
        rw [hn] at p
        exact .inr (hr op (e' :: es) s Q h2 S p)
    cases op with
    | And =>
      refine wpAny_allTrue_And_cons (hq e s _ h1 S (Post.bind p2 fun b v h' tk' _ g r₁ p' => ?_))
      obtain rfl : v = b := r₁
      cases v with
      | true =>
        rcases key true _ Q (S.grow g) p' rfl with ⟨rfl, k⟩ | k
        · exact wpAny_allTrue_And_nil k
        · exact k
      | false => exact p' _ _ _ (.refl g.bs) rfl
    | Or =>
      refine wpAny_allTrue_Or_cons (hq e s _ h1 S (Post.bind p2 fun b v h' tk' _ g r₁ p' => ?_))
      obtain rfl : v = b := r₁
      cases v with
      | true => exact p' _ _ _ (.refl g.bs) rfl
      | false =>
        rcases key false _ Q (S.grow g) p' rfl with ⟨rfl, k⟩ | k
        · exact wpAny_allTrue_Or_nil k
        · exact k

theorem te_pl (X : CxE prog w base0 mg mb t0 n C A base hE name scope L a cd outer) {q : QE} (h : ∀ e, okE scope q e = true → un? e = none ∧ bo? e = none ∧ cmp? e = none) (hl : ∀ es, okL scope q es = false) :
    TeE prog w base0 t0 C A base hE name scope L a cd outer O₀ ρ m O E q ∧ TeA prog w base0 t0 C A base hE name scope L a cd outer O₀ ρ m O E q :=
  ⟨fun e s Q k S p => let ⟨h1, h2, h3⟩ := h e k; test_plain X k (isTrue_of h1 h2 h3 (okE_if k)) S p, fun _ es _ _ h => (Bool.false_ne_true ((hl es).symm.trans h)).elim⟩
theorem te_cmp {l : Expr} {op : CmpOp} {r : Expr} {pos : Pos} {s : Shared} {Q : Bool → Shared → Prop} {env : Env}
    (h : wpAny (model prog w) A (eval l env) (fun a₁ s₁ => wpAny (model prog w) A (eval r env) (fun b s₂ => wpAny (model prog w) A (compareOp op a₁ b) (fun c s₃ => wpAny (model prog w) A (truthy c) Q E s₃) E s₂) E s₁) E s) (k : behindInMarks op r = false) :
    wpAny (model prog w) A (isTrue (.Compare l [op] [r] pos) env (eval (.Compare l [op] [r] pos) env)) Q E s := wpAny_isTrue_Compare1 h k

theorem te_all (X : CxE prog w base0 mg mb t0 n C A base hE name scope L a cd outer) (q : QE) : TeE prog w base0 t0 C A base hE name scope L a cd outer O₀ ρ m O E q ∧ TeA prog w base0 t0 C A base hE name scope L a cd outer O₀ ρ m O E q := by
  have mth : ∀ {e : Expr} {o n as}, meth? e = some (o, n, as) → un? e = none ∧ bo? e = none ∧ cmp? e = none := by
    intro e o n as h; obtain ⟨_, _, rfl, _⟩ := ofMeth h; exact ⟨rfl, rfl, rfl⟩
  have cal : ∀ {e : Expr} {n as}, call? e = some (n, as) → un? e = none ∧ bo? e = none ∧ cmp? e = none := by
    intro e n as h; obtain ⟨_, _, rfl⟩ := ofCall h; exact ⟨rfl, rfl, rfl⟩
  induction q with
  | con d =>
    refine te_pl X (fun e h => ?_) (fun _ => rfl)
    obtain ⟨c, h1, _⟩ := opt_of (o := con? e) h
    cases e <;> first | exact ⟨rfl, rfl, rfl⟩ | exact nn h1
  | var x => exact te_pl X (fun e h => by obtain ⟨_, rfl⟩ := ofN h; exact ⟨rfl, rfl, rfl⟩) (fun _ => rfl)
  | tab x => exact te_pl X (fun e h => by obtain ⟨_, rfl⟩ := ofN (and2 (x := isN e x) h).1; exact ⟨rfl, rfl, rfl⟩) (fun _ => rfl)
  | bin op l r _ _ =>
    refine te_pl X (fun e h => ?_) (fun _ => rfl)
    obtain ⟨_, _, _, h1, _⟩ := opt3_of (o := bin? e) h
    cases e <;> first | exact ⟨rfl, rfl, rfl⟩ | exact nn h1
  | neg x _ =>
    refine ⟨fun e s Q h S p => ?_, fun _ es _ _ h => (Bool.false_ne_true h).elim⟩
    obtain ⟨op, x', h1, h2⟩ := opt2_of (o := un? e) (f := fun op x' => op == .USub && okE scope x x') h
    cases e with
    | UnaryOp op' y pos =>
      cases h1
      obtain ⟨h3, h4⟩ := and2 h2
      obtain rfl : op = .USub := eq_of_beq h3
      exact test_plain X h rfl S p
    | _ => exact nn h1
  | not x hx => exact ⟨te_not X hx.1, fun _ es _ _ h => (Bool.false_ne_true h).elim⟩
  | bo op x hx => exact ⟨te_bo hx.2, fun _ es _ _ h => (Bool.false_ne_true h).elim⟩
  | cmp op l r _ _ =>
    refine ⟨fun e s Q h S p => ?_, fun _ es _ _ h => (Bool.false_ne_true h).elim⟩
    obtain ⟨l', r', pos, rfl, h1, h2⟩ := cmp_ok X (ev_all X l).e (ev_all X r).e h S (K := fun c s₃ => wpAny (model prog w) A (truthy c) Q E s₃) (Post.bind p fun d v h' tk' _ g r₁ p' => by
        obtain ⟨b, rfl, q⟩ := pbool_last g.bs p'
        obtain rfl : v = .bool b := r₁
        exact wpAny_truthy_bool q)
    exact te_cmp h1 h2
  | ty x t _ =>
    refine ⟨fun e s Q h S p => ?_, fun _ es _ _ h => (Bool.false_ne_true h).elim⟩
    obtain ⟨l', r', pos, rfl, h1, h2⟩ := ty_ok X (ev_all X x).e h S (K := fun c s₃ => wpAny (model prog w) A (truthy c) Q E s₃) (Post.bind p fun d v h' tk' _ g r₁ p' => by
        obtain ⟨b, rfl, q⟩ := pbool_last g.bs p'
        obtain rfl : v = .bool b := r₁
        exact wpAny_truthy_bool q)
    exact te_cmp h1 h2
  | tup x _ => exact te_pl X (fun e h => by obtain ⟨_, h1, _⟩ := opt_of (o := tup? e) h; cases e <;> first | exact ⟨rfl, rfl, rfl⟩ | exact nn h1) (fun _ => rfl)
  | lst x _ => exact te_pl X (fun e h => by obtain ⟨_, h1, _⟩ := opt_of (o := lst? e) h; cases e <;> first | exact ⟨rfl, rfl, rfl⟩ | exact nn h1) (fun _ => rfl)
  | sub v i _ _ => exact te_pl X (fun e h => by obtain ⟨_, _, h1, _⟩ := opt2_of (o := sub? e) h; cases e <;> first | exact ⟨rfl, rfl, rfl⟩ | exact nn h1) (fun _ => rfl)
  | cut v lo hi _ _ _ => exact te_pl X (fun e h => by obtain ⟨_, _, h1, _⟩ := opt2_of (o := sub? e) h; cases e <;> first | exact ⟨rfl, rfl, rfl⟩ | exact nn h1) (fun _ => rfl)
  | meth mm o y _ _ => exact te_pl X (fun e h => by obtain ⟨_, _, _, h1, _⟩ := opt3_of (o := meth? e) h; exact mth h1) (fun _ => rfl)
  | replC o y c _ _ => exact te_pl X (fun e h => by obtain ⟨_, _, _, h1, _⟩ := opt3_of (o := meth? e) h; exact mth h1) (fun _ => rfl)
  | replV o c z _ => exact te_pl X (fun e h => by obtain ⟨_, _, _, h1, _⟩ := opt3_of (o := meth? e) h; exact mth h1) (fun _ => rfl)
  | replD o y z₁ z₂ _ _ => exact te_pl X (fun e h => by obtain ⟨_, _, _, h1, _⟩ := opt3_of (o := meth? e) h; exact mth h1) (fun _ => rfl)
  | call f x _ => exact te_pl X (fun e h => by obtain ⟨_, _, h1, _⟩ := opt2_of (o := call? e) h; exact cal h1) (fun _ => rfl)
  | len x _ => exact te_pl X (fun e h => by obtain ⟨_, _, h1, _⟩ := opt2_of (o := call? e) h; exact cal h1) (fun _ => rfl)
  | lenO x => exact te_pl X (fun e h => by obtain ⟨_, _, h1, _⟩ := opt2_of (o := call? e) h; exact cal h1) (fun _ => rfl)
  | lis x _ => exact te_pl X (fun e h => by obtain ⟨_, _, h1, _⟩ := opt2_of (o := call? e) h; exact cal h1) (fun _ => rfl)
  | nil => exact ⟨fun e _ _ h => (Bool.false_ne_true h).elim, fun _ _ _ _ _ _ p => p.elim⟩
  | cons q r hq hr => exact ⟨fun e _ _ h => (Bool.false_ne_true h).elim, te_cons X hq.1 hr.2⟩
  | no => exact ⟨fun e _ _ h => (Bool.false_ne_true h).elim, fun _ es _ _ h => (Bool.false_ne_true h).elim⟩
  | opt x _ => exact ⟨fun e _ _ h => (Bool.false_ne_true h).elim, fun _ es _ _ h => (Bool.false_ne_true h).elim⟩

theorem test_ok (X : CxE prog w base0 mg mb t0 n C A base hE name scope L a cd outer) {q : QE} {e : Expr} (h : okE scope q e = true) (s : Shared) (Q : Bool → Shared → Prop) (S : St base0 base hE O₀ L scope.names t0 ρ s m O)
    (p : PostB base (envOf name scope L a cd :: outer) s (ptest C ρ q) Q E) : wpAny (model prog w) A (isTrue e (envOf name scope L a cd) (eval e (envOf name scope L a cd))) Q E s := (te_all X q).1 e s Q h S p
end
end Mine

open PySem PyProof.Rows
set_option maxRecDepth 10000
namespace Mine

section
variable {M : Model} {A : Around} {E : Value → Shared → Prop} {s : Shared} {base hr : Heap} {env : Env} {outer : List Env} {L e : Addr} {Q : Unit → Shared → Prop}

/-- the frame is noted in a flying ValueError, its flight mark struck -/
theorem note_ok (hfr : A.frames = some (env :: outer)) (hf : env.frame = some L) (x : ExcSt base (env :: outer) hr e s.heap)
    (h : ∀ h', ExcSt base (env :: outer) hr e h' → (∃ oe vs T, h'.get? e = some oe ∧ oe.data = .fields vs ∧ vs[1]? = some (.ref T)) → Q () { s with heap := h' }) :
    wpAny M A (noteFrame (.ref e) env) (fun _ s' => wpAny M A (setFlight (.ref e) none) Q E s') E s := by
  obtain ⟨x1, x2, x3, x4, oe, vs, he, hc, hd, x5⟩ := x
  have fin : ∀ (h₀ h' : Heap), Kp hr h₀ → Heap.Left base (env :: outer) e oe.cls h₀ h' → Q () { s with heap := h' } := by
    intro h₀ h' k ⟨l1, l2, l3, l4⟩
    obtain ⟨oe', vs', T, oT, ts, k1, k2, k3, k4, k5, k6, k7, k8, k9⟩ := l3
    exact h h' ⟨l1, x2, l2, k.trans l4, oe', vs', k1, k2.trans hc, k3, .inr ⟨T, oT, ts, k4, k5, k6, k7, k8, k9⟩⟩ ⟨oe', vs', T, k1, k3, k4⟩
  unfold noteFrame
  simp only [hf]
  rcases x5 with h1 | ⟨T, oT, ts, h1, hnT, hTe, hT, hdT, h3⟩
  · refine wpAny_bind (wpAny_field he hd h1 ?_)
    rw [if_neg (by decide)]
    exact wpAny_newEntry hfr x3 hf he x1 x2 hd (Array.getElem?_eq_some_iff.mp h1).1 fun h' hL => fin _ h' x4 hL
  · refine wpAny_bind (wpAny_field he hd h1 ?_)
    rw [if_pos (show (Value.ref T != Value.none) = true from by simp)]
    refine wpAny_bind (wpAny_field hT hdT h3 ?_)
    rw [if_neg (show ¬ ((Value.none == rawInt L) = true) from by simp [rawInt])]
    refine wpAny_bind (wpAny_setField hT hdT (Array.getElem?_eq_some_iff.mp h3).1 ?_)
    have other : ∀ b, b ≠ T → (s.heap.update T (Obj.mapFields (·.setIfInBounds 3 Value.none))).get? b = s.heap.get? b := fun b hb => Heap.get?_update_other _ _ (Ne.symm hb)
    have noRecord : ∀ b o, s.heap.get? b = some o → (∀ vs, o.data ≠ .fields vs) → b ≠ T := fun b o hb hnf q => by
      rw [q, hT] at hb; injection hb with hb; subst hb; exact hnf ts hdT
    refine wpAny_newEntry hfr (x3.of_keeps fun b o hb hnf => ⟨o, (other b (noRecord b o hb hnf)).trans hb, rfl⟩) hf ((other e (Ne.symm hTe)).trans he)
      (fun b o hbo => (other b fun q => by rw [q, hnT] at hbo; cases hbo).trans (x1 b o hbo)) x2 hd (Array.getElem?_eq_some_iff.mp h1).1 fun h' hL => fin _ h' ?_ hL
    intro b o hb hnf
    obtain ⟨sl, hb'⟩ := x4 b o hb hnf
    exact ⟨sl, (other b (noRecord b _ hb' hnf)).trans hb'⟩

theorem leaving_ok (hfr : A.frames = some (env :: outer)) (hf : env.frame = some L) (x : ExcSt base (env :: outer) hr e s.heap) (h : ∀ h', ExcSt base outer hr e h' → Q () { s with heap := h' }) :
    wpAny M A (leaving env (.ref e)) Q E s := by
  unfold leaving
  refine wpAny_bind (note_ok hfr hf x fun h' x' _ => h h' ?_)
  obtain ⟨x1, x2, ⟨_, _, x3⟩, x4, x5⟩ := x'
  exact ⟨x1, x2, x3, x4, x5⟩

theorem flight_ok (x : ExcSt base (env :: outer) hr e s.heap) (ht : ∃ oe vs T, s.heap.get? e = some oe ∧ oe.data = .fields vs ∧ vs[1]? = some (.ref T))
    (h : ∀ h', ExcSt base (env :: outer) hr e h' → Q () { s with heap := h' }) : wpAny M A (setFlight (.ref e) none) Q E s := by
  obtain ⟨x1, x2, x3, x4, oe, vs, he, hc, hd, x5⟩ := x
  obtain ⟨oe', vs', T', he', hd', h1'⟩ := ht
  rw [he] at he'; cases he'
  rw [hd] at hd'; cases hd'
  rcases x5 with h1 | ⟨T, oT, ts, h1, hnT, hTe, hT, hdT, h3⟩
  · rw [h1] at h1'; cases h1'
  · refine wpAny_setFlight_none he hd h1 hT hdT (Array.getElem?_eq_some_iff.mp h3).1 ?_
    rw [Heap.update_setField_same s.heap T oT ts 3 .none hT hdT h3]
    exact h _ ⟨x1, x2, x3, x4, oe, vs, he, hc, hd, .inr ⟨T, oT, ts, h1, hnT, hTe, hT, hdT, h3⟩⟩
end

/-- a heap less some objects -/
noncomputable def strip (h : Heap) (l : List Addr) : Heap := l.foldl (fun h a => h.update a fun o => { o with data := .freed }) h

theorem strip_get (h : Heap) : ∀ (l : List Addr) (b : Addr), (strip h l).get? b = if b ∈ l then none else h.get? b := by
  intro l
  induction l generalizing h with
  | nil => intro b; simp [strip]
  | cons a l ih =>
    intro b
    show (strip (h.update a fun o => { o with data := .freed }) l).get? b = _
    rw [ih]
    by_cases hb : b ∈ l
    · rw [if_pos hb, if_pos (List.mem_cons_of_mem _ hb)]
    · rw [if_neg hb]
      by_cases hba : b = a
      · subst hba
        rw [if_pos (List.mem_cons_self ..)]
        cases hq : (h.update b fun o => { o with data := .freed }).get? b with
        | none => rfl
        | some o =>
          exfalso
          obtain ⟨e1, e2⟩ := Heap.get?_some_iff.mp hq
          cases h with
          | mk objs life =>
          simp only [Heap.update, Array.getElem?_modify, if_true] at e1
          cases hx : objs[b]? with
          | none => rw [hx] at e1; cases e1
          | some o' =>
            rw [hx] at e1
            simp only [Option.map_some, Option.some.injEq] at e1
            subst e1
            simp [Obj.isFreed] at e2
      · rw [Heap.get?_update_other _ _ (Ne.symm hba), if_neg (by simp [hba, hb])]

abbrev framesOf (l : List Env) : List Addr := l.filterMap (·.frame)

theorem funFrames_strip {h base : Heap} {l : List Env} (f : h.FunFrames base l) {fs : List Addr} (hfs : ∀ a ∈ framesOf l, a ∈ fs) : h.FunFrames (strip h fs) l := by
  induction l with
  | nil => trivial
  | cons env rest ih =>
    obtain ⟨hk, ⟨L, o, hf, hn, ho, hd⟩, hr⟩ := f
    have hm : L ∈ framesOf (env :: rest) := by simp [framesOf, List.filterMap_cons, hf]
    refine ⟨hk, ⟨L, o, hf, by rw [strip_get, if_pos (hfs L hm)], ho, hd⟩, ih hr fun a ha => hfs a ?_⟩
    simp only [framesOf, List.filterMap_cons, hf]
    exact List.mem_cons_of_mem _ ha
end Mine

open PySem PyProof.Rows
set_option maxRecDepth 10000
namespace Mine

noncomputable def FlRep (h : Heap) (O : List Addr) (tk : Nat) : Fl → Flow → Prop
  | .next, .next => True
  | .brk, .brk => True
  | .cont, .cont => True
  | .ret d, .ret v => Rep h O tk d v
  | _, _ => False

/-- the owned lists are none of the base's -/
noncomputable def OwnB (base : Heap) (ρ : PE) (m : Str → Option Value) : Prop := ∀ x ds a, ρ x = some (.own ds) → m x = some (.ref a) → base.get? a = none

/-- what the outcome of a statement asks of the posts -/
noncomputable def PostS (base0 base hE : Heap) (O₀ : Lent) (L : Addr) (names : List (Str × NameKind)) (t0 : Nat) (l : List Env) (s : Shared) (o : Out (Fl × PE)) (Q : Flow → Shared → Prop) (E : Value → Shared → Prop) : Prop :=
  match o with
  | .ok r => ∀ fl h' tk' m' O', s.toks ≤ tk' → St base0 base hE O₀ L names t0 r.2 { s with heap := h', toks := tk' } m' O' → OwnB base r.2 m' → FlRep h' O' tk' r.1 fl → Q fl { s with heap := h', toks := tk' }
  | .exc => ∀ e h' tk', s.toks ≤ tk' → ExcSt base l hE e h' → E (.ref e) { s with heap := h', toks := tk' }
  | .bad => False

section
variable {base0 base hE : Heap} {O₀ : Lent} {L : Addr} {names : List (Str × NameKind)} {t0 : Nat} {l : List Env} {s : Shared} {Q : Flow → Shared → Prop} {E : Value → Shared → Prop} {ρ : PE} {m : Str → Option Value} {O : List Addr}

theorem PostS.later {o : Out (Fl × PE)} {h' : Heap} {tk' : Nat} (g : s.toks ≤ tk') (p : PostS base0 base hE O₀ L names t0 l s o Q E) : PostS base0 base hE O₀ L names t0 l { s with heap := h', toks := tk' } o Q E := by
  cases o with
  | ok d => exact fun fl h'' tk'' m' O' ht S b f => p fl h'' tk'' m' O' (Nat.le_trans g ht) S b f
  | exc => exact fun e h'' tk'' ht x => p e h'' tk'' (Nat.le_trans g ht) x
  | bad => exact p

/-- a statement's head: an expression, then the rest -/
theorem PostS.bind {α γ : Type} {R : Heap → Nat → α → γ → Prop} {Q' : γ → Shared → Prop} {o : Out α} {f : α → Out (Fl × PE)} (S : St base0 base hE O₀ L names t0 ρ s m O) (p : PostS base0 base hE O₀ L names t0 l s (o.bind f) Q E)
    (k : ∀ d v h' tk', o = .ok d → Grow base s h' tk' → R h' tk' d v → PostS base0 base hE O₀ L names t0 l { s with heap := h', toks := tk' } (f d) Q E → Q' v { s with heap := h', toks := tk' }) :
    Post R base l s o Q' E := by
  cases o with
  | ok d => exact fun v h' tk' g r => k d v h' tk' rfl g r (PostS.later (h' := h') g.tk p)
  | exc => exact fun e h' tk' ht x => p e h' tk' ht (x.from (.of_ext S.ext))
  | bad => exact p

theorem OwnB.frz (b : OwnB base ρ m) (xs : List Str) : OwnB base (frz xs ρ) m := by
  intro x ds a e q
  unfold Mine.frz at e
  split at e
  · rename_i ds' he
    split at e
    · cases e
    · cases e; exact b x ds a he q
  · exact b x ds a e q
theorem OwnB.store (b : OwnB base ρ m) (x : Str) (d : PyData) (v : Value) : OwnB base (upd ρ x (.dat d)) (fun y => if y = x then some v else m y) := by
  intro y ds a e q
  unfold upd at e
  by_cases hy : y = x
  · rw [if_pos hy] at e; cases e
  · rw [if_neg hy] at e
    dsimp only at q
    rw [if_neg hy] at q
    exact b y ds a e q
theorem OwnB.change (b : OwnB base ρ m) {x : Str} {ds ds' : List PyData} (e : ρ x = some (.own ds)) : OwnB base (upd ρ x (.own ds')) m := by
  intro y es a q1 q2
  unfold upd at q1
  by_cases hy : y = x
  · rw [hy] at q2; exact b x ds a e q2
  · rw [if_neg hy] at q1; exact b y es a q1 q2

/-- a name is stored: a datum -/
theorem St.store (S : St base0 base hE O₀ L names t0 ρ s m O) {x : Str} {d : PyData} {v : Value} {h' : Heap} (hx : names.lookup x = some .local) (hn : h'.Ns L (fun y => if y = x then some v else m y)) (hs : Heap.SameBut L s.heap h') (r : Rep s.heap O s.toks d v) :
    St base0 base hE O₀ L names t0 (upd ρ x (.dat d)) { s with heap := h', toks := s.toks + 1 } (fun y => if y = x then some v else m y) O := by
  have c : Carry s.heap O h' O := .same S.lo hs
  have ne : ∀ b o, b ≠ L → s.heap.get? b = some o → h'.get? b = some o := fun b o hb e => (hs.2 b hb).trans e
  refine ⟨hn, ?_, ?_, S.lo, S.out, fun q hq => (S.gh q hq).carry c (Nat.le_succ _), fun q hq => (let ⟨k1, k2, k3, k4⟩ := S.ob q hq; ⟨k1, k2, ne _ _ k2 k3, k4⟩), ?_, S.lb, S.le, ?_, ?_, ?_, ?_, Nat.le_succ_of_le S.tk⟩
  · intro b o e
    refine ne b o (fun q => ?_) (S.bs b o e)
    rw [q, S.lb] at e; cases e
  · intro b o e
    exact S.ext.on (fun b o o' e e' => ne b o' (fun q => by rw [q, S.le] at e; cases e) e') b o e
  · intro b hb
    refine ⟨?_, (S.al b hb).2⟩
    by_cases hL : b = L
    · obtain ⟨oL, es, ep, k1, _⟩ := hn
      rw [hL, k1]; rfl
    · rw [hs.2 b hL]; exact (S.al b hb).1
  · intro y d' e
    unfold upd at e
    by_cases hy : y = x
    · rw [if_pos hy] at e
      cases e
      exact ⟨v, by simp [hy], r.carry c (Nat.le_succ _)⟩
    · rw [if_neg hy] at e
      obtain ⟨v', k1, k2⟩ := S.dat y d' e
      exact ⟨v', by simp [hy, k1], k2.carry c (Nat.le_succ _)⟩
  · intro y ds e
    unfold upd at e
    by_cases hy : y = x
    · rw [if_pos hy] at e; cases e
    · rw [if_neg hy] at e
      obtain ⟨b, k1, k2, k3, k4, k5⟩ := S.own y ds e
      exact ⟨b, by simp [hy, k1], k2, k3, k4, k5.carry c (Nat.le_succ _) fun o ho => ⟨o.slots, ne b o k3 ho⟩⟩
  · intro y z ds es b e1 e2 m1 m2
    unfold upd at e1 e2
    by_cases hy : y = x
    · rw [if_pos hy] at e1; cases e1
    · by_cases hz : z = x
      · rw [if_pos hz] at e2; cases e2
      · rw [if_neg hy] at e1 m1
        rw [if_neg hz] at e2 m2
        exact S.dis y z ds es b e1 e2 m1 m2
  · intro y v' e
    unfold upd at e
    by_cases hy : y = x
    · rw [hy]; exact hx
    · rw [if_neg hy] at e; exact S.loc y v' e

/-- the fence is lent to a loop's iterator -/
theorem St.lend (S : St base0 base hE O₀ L names t0 ρ s m O) (o : Obj) (hf : o.isFreed = false) (hb : base0.StaysIn base) :
    St base0 base hE ⟨s.heap.objs.size :: O₀.ad, O₀.gh, O₀.ob⟩ L names t0 ρ { s with heap := s.heap.push o } m (s.heap.objs.size :: O) := by
  have fresh : s.heap.get? s.heap.objs.size = none := Heap.get?_none_of_le (Nat.le_refl _)
  have c : Carry s.heap O (s.heap.push o) (s.heap.objs.size :: O) := fun b ob hb e => by
    refine ⟨fun hm => ?_, ob.slots, Heap.get?_push_of_some _ e⟩
    rcases List.mem_cons.mp hm with q | q
    · rw [q, fresh] at e; cases e
    · exact hb q
  have nb : base.get? s.heap.objs.size = none := by
    cases hq : base.get? s.heap.objs.size with
    | none => rfl
    | some o' => have := S.bs _ _ hq; rw [fresh] at this; cases this
  refine ⟨S.ns.push o, staysIn_push S.bs o, S.ext.trans (.push _ _), List.mem_cons_of_mem _ S.lo, ?_, fun q hq => (S.gh q hq).carry c (Nat.le_refl _), fun q hq => (let ⟨k1, k2, k3, k4⟩ := S.ob q hq; ⟨List.mem_cons_of_mem _ k1, k2, Heap.get?_push_of_some _ k3, k4⟩), ?_, S.lb, S.le, ?_, ?_, S.dis, S.loc, S.tk⟩
  · intro a ha
    rcases List.mem_cons.mp ha with q | q
    · rw [q]; exact List.mem_cons_self ..
    · exact List.mem_cons_of_mem _ (S.out a q)
  · intro a ha
    rcases List.mem_cons.mp ha with q | q
    · rw [q]
      refine ⟨by rw [Heap.get?_push_size _ hf]; rfl, ?_⟩
      cases hq : base0.get? s.heap.objs.size with
      | none => rfl
      | some o' => have := hb _ _ hq; rw [nb] at this; cases this
    · exact ⟨Ext.some (.push _ _) (S.al a q).1, (S.al a q).2⟩
  · intro x d e
    obtain ⟨v, h1, h2⟩ := S.dat x d e
    exact ⟨v, h1, h2.carry c (Nat.le_refl _)⟩
  · intro x ds e
    obtain ⟨a, h1, h2, h3, h4, h5⟩ := S.own x ds e
    refine ⟨a, h1, List.mem_cons_of_mem _ h2, h3, ⟨fun hm => ?_, h4.2⟩, h5.carry c (Nat.le_refl _) fun ob ho => ⟨ob.slots, Heap.get?_push_of_some _ ho⟩⟩
    rcases List.mem_cons.mp hm with q | q
    · have := (S.al a h2).1
      rw [q, fresh] at this; cases this
    · exact h4.1 q

/-- what a loop lent is touched -/
theorem St.touch (S : St base0 base hE O₀ L names t0 ρ s m O) {Z : List Addr} {h' : Heap} {tk' : Nat} {ob' : List (Addr × Obj)} (hit : ∀ z ∈ Z, z ∈ O₀.ad ∧ z ≠ L ∧ base.get? z = none ∧ hE.get? z = none) (k : ∀ b o, b ∉ Z → s.heap.get? b = some o → h'.get? b = some o)
    (hi : ∀ z ∈ Z, (h'.get? z).isSome) (ht : s.toks ≤ tk') (hob : ∀ q ∈ ob', (q ∈ O₀.ob ∧ q.1 ∉ Z) ∨ (q.1 ∈ Z ∧ h'.get? q.1 = some q.2 ∧ ∀ es ep, q.2.data ≠ .dict es ep)) :
    St base0 base hE ⟨O₀.ad, O₀.gh, ob'⟩ L names t0 ρ { s with heap := h', toks := tk' } m O := by
  have c : Carry s.heap O h' O := fun b o hb e => ⟨hb, o.slots, k b o (fun q => hb (S.out b (hit b q).1)) e⟩
  refine ⟨?_, ?_, ?_, S.lo, S.out, fun q hq => (S.gh q hq).carry c ht, ?_, ?_, S.lb, S.le, ?_, ?_, S.dis, S.loc, Nat.le_trans S.tk ht⟩
  · obtain ⟨o, es, ep, ho, r⟩ := S.ns
    exact ⟨o, es, ep, k L o (fun q => (hit L q).2.1 rfl) ho, r⟩
  · exact fun b o e => k b o (fun q => by rw [(hit b q).2.2.1] at e; cases e) (S.bs b o e)
  · intro b o e
    exact S.ext.on (fun b o o' e e' => k b o' (fun q => by rw [(hit b q).2.2.2] at e; cases e) e') b o e
  · intro q hq
    rcases hob q hq with ⟨h1, h2⟩ | ⟨h1, h2⟩
    · obtain ⟨k1, k2, k3, k4⟩ := S.ob q h1
      exact ⟨k1, k2, k _ _ h2 k3, k4⟩
    · exact ⟨(hit _ h1).1, (hit _ h1).2.1, h2⟩
  · intro a ha
    refine ⟨?_, (S.al a ha).2⟩
    by_cases q : a ∈ Z
    · exact hi a q
    · cases hx : s.heap.get? a with
      | none => have := (S.al a ha).1; rw [hx] at this; cases this
      | some o => rw [k a o q hx]; rfl
  · intro x d e
    obtain ⟨v, h1, h2⟩ := S.dat x d e
    exact ⟨v, h1, h2.carry c ht⟩
  · intro x ds e
    obtain ⟨a, h1, h2, h3, h4, h5⟩ := S.own x ds e
    exact ⟨a, h1, h2, h3, h4, h5.carry c ht fun ob ho => ⟨ob.slots, k a ob (fun q => h4.1 (hit a q).1) ho⟩⟩

/-- the loop gives back what it was lent -/
theorem St.back (S : St base0 base hE O₀ L names t0 ρ s m O) {O₁ : Lent} (h : ∀ a ∈ O₁.ad, a ∈ O₀.ad) (hg : ∀ q ∈ O₁.gh, q ∈ O₀.gh) (hb : ∀ q ∈ O₁.ob, q ∈ O₀.ob ∧ q.1 ∈ O₁.ad) : St base0 base hE O₁ L names t0 ρ s m O :=
  ⟨S.ns, S.bs, S.ext, S.lo, fun a ha => S.out a (h a ha), fun q hq => S.gh q (hg q hq), fun q hq => ⟨(hb q hq).2, (S.ob q (hb q hq).1).2⟩, S.al, S.lb, S.le, S.dat, fun x ds e => let ⟨a, h1, h2, h3, h4, h5⟩ := S.own x ds e; ⟨a, h1, h2, h3, ⟨fun q => h4.1 (h a q), h4.2⟩, h5⟩, S.dis, S.loc, S.tk⟩

/-- a datum is lent: it must stand -/
theorem St.ghost (S : St base0 base hE O₀ L names t0 ρ s m O) {v : Value} {d : PyData} (r : Rep s.heap O s.toks d v) : St base0 base hE ⟨O₀.ad, (v, d) :: O₀.gh, O₀.ob⟩ L names t0 ρ s m O :=
  ⟨S.ns, S.bs, S.ext, S.lo, S.out, fun q hq => by
    rcases List.mem_cons.mp hq with e | e
    · rw [e]; exact r
    · exact S.gh q e, S.ob, S.al, S.lb, S.le, S.dat, S.own, S.dis, S.loc, S.tk⟩

/-- an owned list changes -/
theorem St.change (S : St base0 base hE O₀ L names t0 ρ s m O) {x : Str} {ds ds' : List PyData} {a : Addr} {h' : Heap} (e : ρ x = some (.own ds)) (ea : m x = some (.ref a)) (hs : Heap.SameBut a s.heap h') (k : OwnAt h' O s.toks ds' a)
    (hb : base.get? a = none) : St base0 base hE O₀ L names t0 (upd ρ x (.own ds')) { s with heap := h' } m O := by
  obtain ⟨a', h1, h2, h3, h4, h5⟩ := S.own x ds e
  rw [ea] at h1
  cases h1
  have c : Carry s.heap O h' O := .same h2 hs
  have ne : ∀ b o, b ≠ a → s.heap.get? b = some o → h'.get? b = some o := fun b o hb e => (hs.2 b hb).trans e
  refine ⟨S.ns.sameBut hs (Ne.symm h3), ?_, ?_, S.lo, S.out, fun q hq => (S.gh q hq).carry c (Nat.le_refl _), fun q hq => (let ⟨k1, k2, k3, k5⟩ := S.ob q hq; ⟨k1, k2, ne _ _ (fun z => h4.1 (z ▸ k1)) k3, k5⟩), ?_, S.lb, S.le, ?_, ?_, ?_, ?_, S.tk⟩
  · exact fun b o q => ne b o (fun z => by rw [z, hb] at q; cases q) (S.bs b o q)
  · intro b o q
    exact S.ext.on (fun b o o' e e' => ne b o' (fun z => by rw [z, h4.2] at e; cases e) e') b o q
  · intro b hm
    refine ⟨?_, (S.al b hm).2⟩
    by_cases q : b = a
    · obtain ⟨vs, n, sl, k1, _⟩ := k
      rw [q, k1]; rfl
    · rw [hs.2 b q]; exact (S.al b hm).1
  · intro y d q
    unfold upd at q
    by_cases hy : y = x
    · rw [if_pos hy] at q; cases q
    · rw [if_neg hy] at q
      obtain ⟨v, k1, k2⟩ := S.dat y d q
      exact ⟨v, k1, k2.carry c (Nat.le_refl _)⟩
  · intro y es q
    unfold upd at q
    by_cases hy : y = x
    · rw [if_pos hy] at q
      cases q
      rw [hy]
      exact ⟨a, ea, h2, h3, h4, k⟩
    · rw [if_neg hy] at q
      obtain ⟨b, k1, k2, k3, k4, k5⟩ := S.own y es q
      have hba : b ≠ a := fun z => hy (S.dis y x es ds a q e (by rw [← z]; exact k1) ea)
      exact ⟨b, k1, k2, k3, k4, k5.carry c (Nat.le_refl _) fun o ho => ⟨o.slots, ne b o hba ho⟩⟩
  · intro y z es fs b q1 q2 m1 m2
    unfold upd at q1 q2
    by_cases hy : y = x
    · by_cases hz : z = x
      · rw [hy, hz]
      · rw [if_neg hz] at q2
        rw [hy] at m1 ⊢
        exact S.dis x z ds fs b e q2 m1 m2
    · rw [if_neg hy] at q1
      by_cases hz : z = x
      · rw [hz] at m2 ⊢
        exact S.dis y x es ds b q1 e m1 m2
      · rw [if_neg hz] at q2
        exact S.dis y z es fs b q1 q2 m1 m2
  · intro y v q
    unfold upd at q
    by_cases hy : y = x
    · rw [hy]; exact S.loc x _ e
    · rw [if_neg hy] at q; exact S.loc y v q

/-- a name is stored: a list of one's own -/
theorem St.storeOwn (S : St base0 base hE O₀ L names t0 ρ s m O) {x : Str} {ds : List PyData} {a : Addr} {h' : Heap} (hx : names.lookup x = some .local) (hn : h'.Ns L (fun y => if y = x then some (.ref a) else m y)) (hs : Heap.SameBut L s.heap h')
    (ha : a ∈ O) (haL : a ≠ L) (ha0 : a ∉ O₀.ad) (haE : hE.get? a = none) (k : OwnAt s.heap O s.toks ds a) (un : ∀ y es, ρ y = some (.own es) → m y ≠ some (.ref a)) :
    St base0 base hE O₀ L names t0 (upd ρ x (.own ds)) { s with heap := h', toks := s.toks + 1 } (fun y => if y = x then some (.ref a) else m y) O := by
  have c : Carry s.heap O h' O := .same S.lo hs
  have ne : ∀ b o, b ≠ L → s.heap.get? b = some o → h'.get? b = some o := fun b o hb e => (hs.2 b hb).trans e
  refine ⟨hn, ?_, ?_, S.lo, S.out, fun q hq => (S.gh q hq).carry c (Nat.le_succ _), fun q hq => (let ⟨k1, k2, k3, k4⟩ := S.ob q hq; ⟨k1, k2, ne _ _ k2 k3, k4⟩), ?_, S.lb, S.le, ?_, ?_, ?_, ?_, Nat.le_succ_of_le S.tk⟩
  · intro b o e
    refine ne b o (fun q => ?_) (S.bs b o e)
    rw [q, S.lb] at e; cases e
  · intro b o e
    exact S.ext.on (fun b o o' e e' => ne b o' (fun q => by rw [q, S.le] at e; cases e) e') b o e
  · intro b hb
    refine ⟨?_, (S.al b hb).2⟩
    by_cases hL : b = L
    · obtain ⟨oL, es, ep, k1, _⟩ := hn
      rw [hL, k1]; rfl
    · rw [hs.2 b hL]; exact (S.al b hb).1
  · intro y d' e
    unfold upd at e
    by_cases hy : y = x
    · rw [if_pos hy] at e; cases e
    · rw [if_neg hy] at e
      obtain ⟨v', k1, k2⟩ := S.dat y d' e
      exact ⟨v', by simp [hy, k1], k2.carry c (Nat.le_succ _)⟩
  · intro y es e
    unfold upd at e
    by_cases hy : y = x
    · rw [if_pos hy] at e
      cases e
      exact ⟨a, by simp [hy], ha, haL, ⟨ha0, haE⟩, k.carry c (Nat.le_succ _) fun o ho => ⟨o.slots, ne a o haL ho⟩⟩
    · rw [if_neg hy] at e
      obtain ⟨b, k1, k2, k3, k4, k5⟩ := S.own y es e
      exact ⟨b, by simp [hy, k1], k2, k3, k4, k5.carry c (Nat.le_succ _) fun o ho => ⟨o.slots, ne b o k3 ho⟩⟩
  · intro y z es fs b e1 e2 m1 m2
    unfold upd at e1 e2
    by_cases hy : y = x
    · by_cases hz : z = x
      · rw [hy, hz]
      · rw [if_neg hz] at e2 m2
        rw [if_pos hy] at m1
        cases m1
        exact absurd m2 (un z fs e2)
    · by_cases hz : z = x
      · rw [if_neg hy] at e1 m1
        rw [if_pos hz] at m2
        cases m2
        exact absurd m1 (un y es e1)
      · rw [if_neg hy] at e1 m1
        rw [if_neg hz] at e2 m2
        exact S.dis y z es fs b e1 e2 m1 m2
  · intro y v' e
    unfold upd at e
    by_cases hy : y = x
    · rw [hy]; exact hx
    · rw [if_neg hy] at e; exact S.loc y v' e
theorem OwnB.storeOwn (b : OwnB base ρ m) (x : Str) (ds : List PyData) {a : Addr} (ha : base.get? a = none) : OwnB base (upd ρ x (.own ds)) (fun y => if y = x then some (.ref a) else m y) := by
  intro y es c e q
  unfold upd at e
  dsimp only at q
  by_cases hy : y = x
  · rw [if_pos hy] at q; cases q; exact ha
  · rw [if_neg hy] at e q
    exact b y es c e q
end
end Mine

open PySem PyProof.Rows
set_option maxRecDepth 10000
namespace Mine

theorem Reps.one {h : Heap} {O : List Addr} {tk : Nat} {d : PyData} {v : Value} (r : Rep h O tk d v) : Reps h O tk [d] [v] := ⟨v, [], rfl, r, rfl⟩

section
variable {prog : Program} {w : World} {base0 : Heap} {mg mb : Str → Option Value} {t0 n : Nat} {C : PC} {A : Around} {base hE : Heap} {name : Str} {scope : Scope} {L a : Addr} {cd : Value} {outer : List Env}
  {O₀ : Lent} {ρ : PE} {m : Str → Option Value} {O : List Addr} {E : Value → Shared → Prop} {s : Shared} {Q : Flow → Shared → Prop}

abbrev PostX (base0 base hE : Heap) (O₀ : Lent) (t0 : Nat) (name : Str) (scope : Scope) (L a : Addr) (cd : Value) (outer : List Env) := PostS base0 base hE O₀ L scope.names t0 (envOf name scope L a cd :: outer)

theorem notClass (X : CxE prog w base0 mg mb t0 n C A base hE name scope L a cd outer) : ((envOf name scope L a cd).scope.kind == .class || ((envOf name scope L a cd).scope.kind == .module && (envOf name scope L a cd).locals != (envOf name scope L a cd).globals)) = false := by
  show (scope.kind == .class || (scope.kind == .module && L != mainGlobals)) = false
  rw [X.kind]; rfl

theorem store_ok (X : CxE prog w base0 mg mb t0 n C A base hE name scope L a cd outer) (S : St base0 base hE O₀ L scope.names t0 ρ s m O) {x : Str} {v : Value} {Q : Unit → Shared → Prop} (hx : scope.names.lookup x = some .local)
    (h : ∀ h', h'.Ns L (fun y => if y = x then some v else m y) → Heap.SameBut L s.heap h' → Q () { s with heap := h', toks := s.toks + 1 }) :
    wpAny (model prog w) A (storeName (envOf name scope L a cd) x v) Q E s :=
  wpAny_storeName_local (env := envOf name scope L a cd) hx S.ns h (notClass X)

theorem swaps_none {e : Expr} {t : Option Expr} {k : Nat} {env : Env} (h : noComp e = true) : swapsWith e t k env = pure false := by
  cases e <;> first | rfl | exact (Bool.false_ne_true h).elim

theorem ret_ok (X : CxE prog w base0 mg mb t0 n C A base hE name scope L a cd outer) (S : St base0 base hE O₀ L scope.names t0 ρ s m O) (B : OwnB base ρ m) {q : QE} {e : Expr} {pos : Pos} (h : okE scope q e = true)
    (p : PostX base0 base hE O₀ t0 name scope L a cd outer s ((pev C ρ q).bind fun d => .ok (.ret d, ρ)) Q E) : wpAny (model prog w) A (exec (.Return (some e) pos) (envOf name scope L a cd)) Q E s := by
  refine wpAny_Return_some (pev_ok X h s _ S (PostS.bind S p fun d v h' tk' _ g r p' => ?_))
  exact p' (.ret v) h' tk' m O (Nat.le_refl _) (S.grow g) B r

theorem assign_ok (X : CxE prog w base0 mg mb t0 n C A base hE name scope L a cd outer) (S : St base0 base hE O₀ L scope.names t0 ρ s m O) (B : OwnB base ρ m) {q : QE} {e : Expr} {x : Str} {xp pos : Pos} (hx : scope.names.lookup x = some .local) (h : okE scope q e = true)
    (p : PostX base0 base hE O₀ t0 name scope L a cd outer s ((pev C ρ q).bind fun d => .ok (.next, upd ρ x (.dat d))) Q E) : wpAny (model prog w) A (exec (.Assign [.Name x xp] e pos) (envOf name scope L a cd)) Q E s := by
  refine wpAny_Assign_Name (pev_ok X h s _ S (PostS.bind S p fun d v h' tk' _ g r p' => ?_)) (swaps_none (okE_not h).2.1)
  exact store_ok X (S.grow g) hx fun h2 hn hs => p' .next h2 (tk' + 1) _ O (Nat.le_succ _) ((S.grow g).store hx hn hs r) (B.store x d v) trivial

theorem listOwn_ok (X : CxE prog w base0 mg mb t0 n C A base hE name scope L a cd outer) (S : St base0 base hE O₀ L scope.names t0 ρ s m O) (B : OwnB base ρ m) {q : QE} {es : List Expr} {x : Str} {lp xp pos : Pos} (hx : scope.names.lookup x = some .local) (h : okL scope q es = true)
    (p : PostX base0 base hE O₀ t0 name scope L a cd outer s ((pevs C ρ q).bind fun ds => if ds.length ≤ LIM then .ok (.next, upd ρ x (.own ds)) else .bad) Q E) :
    wpAny (model prog w) A (exec (.Assign [.Name x xp] (.List es lp) pos) (envOf name scope L a cd)) Q E s := by
  refine wpAny_Assign_Name (wpAny_List_spliced ?_) (swaps_none rfl)
  rw [starEach_plain _ (okL_star h), backTo_trees]
  refine pevs_ok X h s _ S (PostS.bind S p fun ds vs h' tk' _ g r p' => ?_)
  split at p'
  · rename_i hle
    refine ⟨by rw [r.length, sizeLine_is]; exact hle, ?_⟩
    have S1 := S.grow g
    have S2 := S1.lend { cls := .type "list", data := .seq vs.toArray } rfl X.b0
    have fresh : h'.get? h'.objs.size = none := Heap.get?_none_of_le (Nat.le_refl _)
    have nb : base.get? h'.objs.size = none := by
      cases hq : base.get? h'.objs.size with
      | none => rfl
      | some o' => have := S1.bs _ _ hq; rw [show ({ s with heap := h', toks := tk' } : Shared).heap = h' from rfl, fresh] at this; cases this
    have nE : hE.get? h'.objs.size = none := by
      cases hq : hE.get? h'.objs.size with
      | none => rfl
      | some o' => obtain ⟨sl, q⟩ := S1.ext.sl _ _ hq; rw [show ({ s with heap := h', toks := tk' } : Shared).heap = h' from rfl, fresh] at q; cases q
    have n0 : h'.objs.size ∉ O₀.ad := fun hm => by
      have := (S1.al _ (S1.out _ hm)).1
      rw [show ({ s with heap := h', toks := tk' } : Shared).heap = h' from rfl, fresh] at this; cases this
    have nL : h'.objs.size ≠ L := fun q => by
      have := (S1.al _ S1.lo).1
      rw [← q, show ({ s with heap := h', toks := tk' } : Shared).heap = h' from rfl, fresh] at this; cases this
    have S3 := S2.back (O₁ := O₀) (fun a ha => List.mem_cons_of_mem _ ha) (fun q hq => hq) fun q hq => ⟨hq, (S1.ob q hq).1⟩
    refine store_ok X S3 hx fun h2 hn hs => ?_
    refine p' .next h2 (tk' + 1) _ (h'.objs.size :: O) (Nat.le_succ _) (S3.storeOwn hx hn hs (List.mem_cons_self ..) nL n0 nE ?_ ?_) (B.storeOwn x ds nb) trivial
    · refine ⟨vs.toArray, 0, #[], Heap.get?_push_size _ rfl, ?_⟩
      have c : Carry h' O (h'.push { cls := .type "list", data := .seq vs.toArray }) (h'.objs.size :: O) := fun b ob hb e => by
        refine ⟨fun hm => ?_, ob.slots, Heap.get?_push_of_some _ e⟩
        rcases List.mem_cons.mp hm with q | q
        · rw [q, fresh] at e; cases e
        · exact hb q
      simpa using r.carry c (Nat.le_refl _)
    · intro y fs q1 q2
      obtain ⟨b, k1, k2, _⟩ := S1.own y fs q1
      rw [k1] at q2
      cases q2
      have := (S1.al _ k2).1
      rw [show ({ s with heap := h', toks := tk' } : Shared).heap = h' from rfl, fresh] at this; cases this
  · exact p'.elim

theorem append_ok {l : Addr} {items : Array Value} {nn : Nat} {sl : Array (Option Value)} {x : Value} {Q : Value → Shared → Prop} (ho : s.heap.get? l = some ⟨.type "list", none, .seq items nn, sl⟩)
    (hQ : ∀ h', h'.get? l = some ⟨.type "list", none, .seq (items.push x) (nn + 1), sl⟩ → Heap.SameBut l s.heap h' → Q .none { s with heap := h' }) (hsz : items.size ≤ sizeLine) :
    wpAny (model prog w) A (call (.builtin "list.append") [.ref l, x]) Q E s := by
  refine wpAny_call_entry slot_list_append ⟨_, ho, rfl⟩ entry_list_append ?_ (args_list_append _ _)
  show wpAny _ _ (updateSeq l (·.push x) >>= fun _ => ret .none) _ _ s
  refine wpAny_bind ?_
  have e : Obj.mapSeq (·.push x) ⟨.type "list", none, .seq items nn, sl⟩ = ⟨.type "list", none, .seq (items.push x) (nn + 1), sl⟩ := by simp [Obj.mapSeq]
  refine wpAny_updateSeq ho rfl (wpAny_pure ⟨.none, rfl, hQ _ ?_ (Heap.SameBut.update ..)⟩) hsz (by rw [Array.size_push]; omega)
  rw [Heap.get?_update_self _ ho (by rw [e]; rfl), e]

theorem appendS_ok (X : CxE prog w base0 mg mb t0 n C A base hE name scope L a cd outer) (S : St base0 base hE O₀ L scope.names t0 ρ s m O) (B : OwnB base ρ m) {q : QE} {e : Expr} {l : Str} {ds : List PyData} {np ap cp pos : Pos} (hl : ap.endLine = cp.line) (h : okE scope q e = true)
    (p : PostX base0 base hE O₀ t0 name scope L a cd outer s ((pev C ρ q).bind fun d => if ds.length < LIM then .ok (.next, upd ρ l (.own (ds ++ [d]))) else .bad) Q E)
    (hds : ρ l = some (.own ds)) :
    wpAny (model prog w) A (exec (.Expr (.Call (.Attribute (.Name l np) (Str.ofString "append") ap) [e] [] cp) pos) (envOf name scope L a cd)) Q E s := by
  have hst := (okE_not h).2.2.1
  have hln : (ap.endLine == cp.line) = true := by rw [beq_iff_eq]; exact hl
  have hbt : backTo cp (starEach [e] (envOf name scope L a cd)) = trees [e] (envOf name scope L a cd) := by rw [starEach_plain _ hst, backTo_trees]
  have hint : interactive (envOf name scope L a cd) = false := by
    unfold interactive
    show (scope.kind == .module && _) = false
    rw [X.kind]; rfl
  refine wpAny_Expr_any ?_ hint rfl
  refine wpAny_Call_method (attrBase_plain rfl) ?_ hln F.plainAttrs_list F.slot_list_append F.type_list_append ?_
  · rw [hbt, all_trees]; rfl
  rw [hbt]
  refine load_own X S hds fun b hb hbO hbL hb0 ho => ?_
  obtain ⟨vs, nn, sl, k1, k2⟩ := id ho
  refine ⟨⟨_, k1, rfl⟩, fun a' ea => by cases ea; exact ⟨_, k1, rfl⟩, ?_⟩
  refine Calls.callWith_builtin (any_trees _ _) (evalArgs_trees (Calls.spliced_cons (pev_ok X h s _ S (PostS.bind S p fun d v h' tk' _ g r p' => Calls.spliced_nil ?_))))
  split at p'
  · rename_i hle
    have S1 := S.grow g
    obtain ⟨sl', k1'⟩ := g.ext.sl _ _ k1
    have hn := k2.length
    simp only [Array.length_toList] at hn
    have hL : LIM = 16777216 := rfl
    refine append_ok (items := vs) (nn := nn) (sl := sl') k1' (fun h2 q1 q2 => ?_) (by rw [sizeLine_is, hn]; omega)
    have hbb := B l ds b hds hb
    refine p' .next h2 tk' m O (Nat.le_refl _) (S1.change hds hb q2 ⟨vs.push v, nn + 1, sl', q1, ?_⟩ hbb) (B.change hds) trivial
    have c : Carry h' O h2 O := .same hbO q2
    rw [Array.toList_push]
    exact ((k2.carry (.ext g.ext O) g.tk).append (Reps.one r)).carry c (Nat.le_refl _)
  · exact p'.elim

theorem pop_ok {l : Addr} {items : Array Value} {y : Value} {nn : Nat} {sl : Array (Option Value)} {Q : Value → Shared → Prop} (ho : s.heap.get? l = some ⟨.type "list", none, .seq (items.push y) nn, sl⟩)
    (hQ : ∀ h' nn', h'.get? l = some ⟨.type "list", none, .seq items nn', sl⟩ → Heap.SameBut l s.heap h' → Q y { s with heap := h' }) (hsz : items.size < sizeLine) :
    wpAny (model prog w) A (call (.builtin "list.pop") [.ref l]) Q E s := by
  refine wpAny_call_entry F.slot_list_pop ⟨_, ho, rfl⟩ F.entry_list_pop ?_ (F.args_list_pop_1 _)
  show wpAny _ _ (Builtin.List.listItems (.ref l) >>= _) _ _ s
  refine wpAny_bind ?_
  unfold Builtin.List.listItems
  refine wpAny_bind (wpAny_seqItems ho rfl (wpAny_pure ?_))
  have h1 : (items.push y).isEmpty = false := by simp
  have h2 : seqIndex? (-1) (items.push y).size = some items.size := by
    rw [Array.size_push]
    show (if (decide (0 ≤ (if (-1 : Int) < 0 then -1 + ((items.size + 1 : Nat) : Int) else -1)) && decide ((if (-1 : Int) < 0 then -1 + ((items.size + 1 : Nat) : Int) else -1) < ((items.size + 1 : Nat) : Int))) = true then some (if (-1 : Int) < 0 then -1 + ((items.size + 1 : Nat) : Int) else -1).toNat else none) = _
    rw [if_pos (by decide : (-1 : Int) < 0)]
    rw [if_pos (by simp only [Bool.and_eq_true, decide_eq_true_eq]; omega)]
    congr 1
    omega
  have h3 : (items.push y)[items.size]? = some y := by simp
  simp only [h1, h2, h3, Bool.false_eq_true, if_false, Option.bind_some, Option.map_some]
  have e : Obj.mapSeq (fun xs => xs.eraseIdxIfInBounds items.size) ⟨.type "list", none, .seq (items.push y) nn, sl⟩ = ⟨.type "list", none, .seq items (nn + 1), sl⟩ := by
    have e1 : (items.push y).eraseIdxIfInBounds items.size = items := by
      apply Array.ext'
      simp [Array.eraseIdxIfInBounds, Array.toList_eraseIdx]
      rw [List.eraseIdx_append_of_length_le (by simp)]
      simp
    unfold Obj.mapSeq
    dsimp only
    rw [e1, Array.size_push]
    rw [if_neg (by simp)]
  refine wpAny_bind (m := updateSeq l _) ?_
  refine wpAny_updateSeq ho rfl (wpAny_pure ⟨y, rfl, hQ _ (nn + 1) ?_ (Heap.SameBut.update ..)⟩) (by rw [Array.size_push]; omega) ?_
  · rw [Heap.get?_update_self _ ho (by rw [e]; rfl), e]
  · have : ((items.push y).eraseIdxIfInBounds items.size).size ≤ (items.push y).size := by
      unfold Array.eraseIdxIfInBounds
      split
      · rw [Array.size_eraseIdx]; omega
      · exact Nat.le_refl _
    rw [Array.size_push] at this
    omega
end
end Mine

open PySem PyProof.Rows
set_option maxRecDepth 10000
namespace Mine

theorem Reps.snoc {h : Heap} {O : List Addr} {tk : Nat} {d : PyData} : ∀ {ds : List PyData} {vs : List Value}, Reps h O tk (ds ++ [d]) vs → ∃ ws y, vs = ws ++ [y] ∧ Reps h O tk ds ws ∧ Rep h O tk d y
  | [], _, r => by
    obtain ⟨v, r', h1, h2, h3⟩ := r
    obtain rfl : r' = [] := h3
    exact ⟨[], v, h1, rfl, h2⟩
  | e :: ds, _, r => by
    obtain ⟨v, r', h1, h2, h3⟩ := r
    obtain ⟨ws, y, k1, k2, k3⟩ := Reps.snoc h3
    exact ⟨v :: ws, y, by rw [h1, k1]; rfl, ⟨v, ws, rfl, h2, k2⟩, k3⟩

section
variable {prog : Program} {w : World} {base0 : Heap} {mg mb : Str → Option Value} {t0 n : Nat} {C : PC} {A : Around} {base hE : Heap} {name : Str} {scope : Scope} {L a : Addr} {cd : Value} {outer : List Env}
  {O₀ : Lent} {ρ : PE} {m : Str → Option Value} {O : List Addr} {E : Value → Shared → Prop} {s : Shared} {Q : Flow → Shared → Prop}

theorem popS_ok (X : CxE prog w base0 mg mb t0 n C A base hE name scope L a cd outer) (S : St base0 base hE O₀ L scope.names t0 ρ s m O) (B : OwnB base ρ m) {x l : Str} {ds : List PyData} {d : PyData} {xp np ap cp pos : Pos} (hx : scope.names.lookup x = some .local)
    (hl : ap.endLine = cp.line) (hds : ρ l = some (.own ds)) (hd : ds.getLast? = some d) (hlen : ds.length ≤ LIM)
    (p : PostX base0 base hE O₀ t0 name scope L a cd outer s (.ok (.next, upd (upd ρ l (.own ds.dropLast)) x (.dat d))) Q E) :
    wpAny (model prog w) A (exec (.Assign [.Name x xp] (.Call (.Attribute (.Name l np) (Str.ofString "pop") ap) [] [] cp) pos) (envOf name scope L a cd)) Q E s := by
  have hln : (ap.endLine == cp.line) = true := by rw [beq_iff_eq]; exact hl
  refine wpAny_Assign_Name ?_ (swaps_none rfl)
  refine wpAny_Call_method (attrBase_plain rfl) rfl hln F.plainAttrs_list F.slot_list_pop F.type_list_pop ?_
  refine load_own X S hds fun b hb hbO hbL hb0 ho => ?_
  obtain ⟨vs, nn, sl, k1, k2⟩ := id ho
  refine ⟨⟨_, k1, rfl⟩, fun a' ea => by cases ea; exact ⟨_, k1, rfl⟩, ?_⟩
  refine Calls.callWith_builtin rfl (PySem.evalArgs_none ?_)
  have hne : ds ≠ [] := fun e => by rw [e] at hd; cases hd
  have e1 : ds = ds.dropLast ++ [d] := by
    have h := List.dropLast_concat_getLast hne
    have h2 : ds.getLast hne = d := by rw [List.getLast?_eq_some_getLast hne] at hd; exact Option.some.inj hd
    rw [h2] at h
    exact h.symm
  have hn := k2.length
  simp only [Array.length_toList] at hn
  rw [e1] at k2
  obtain ⟨ws, y, q1, q2, q3⟩ := k2.snoc
  have ev : vs = ws.toArray.push y := by
    apply Array.ext'
    rw [q1]; simp
  have hL : LIM = 16777216 := rfl
  rw [ev] at k1
  have hws : ws.length = ds.length - 1 := by
    have := q2.length
    rw [this, List.length_dropLast]
  have hpos : 0 < ds.length := List.length_pos_iff.mpr hne
  refine pop_ok (items := ws.toArray) k1 (fun h2 nn' r1 r2 => ?_) (by rw [sizeLine_is, List.size_toArray, hws]; omega)
  have hbb := B l ds b hds hb
  have c : Carry s.heap O h2 O := .same hbO r2
  have S1 := S.change hds hb r2 (ds' := ds.dropLast) ⟨ws.toArray, nn', sl, r1, by simpa using q2.carry c (Nat.le_refl _)⟩ hbb
  exact store_ok X S1 hx fun h3 hn3 hs3 => p .next h3 (s.toks + 1) _ O (Nat.le_succ _) (S1.store hx hn3 hs3 (q3.carry c (Nat.le_refl _))) ((B.change hds).store x d y) trivial

theorem raise_ok (X : CxE prog w base0 mg mb t0 n C A base hE name scope L a cd outer) (S : St base0 base hE O₀ L scope.names t0 ρ s m O) {k : Nat} {c : Str} {xp kp cp pos : Pos} (h1 : scope.names.lookup (Str.ofString "ValueError") = some .globalImplicit)
    (p : PostX base0 base hE O₀ t0 name scope L a cd outer s .exc Q E) :
    wpAny (model prog w) A (exec (.Raise (some (.Call (.Name (Str.ofString "ValueError") xp) [.Constant (.str c) k kp] [] cp)) none pos) (envOf name scope L a cd)) Q E s := by
  refine wpAny_Raise_call F.excCall_ValueError F.excRaise_ValueError X.hh rfl ?_
  refine load_blt X S h1 bltOf_VE ⟨rfl, ?_⟩
  refine Calls.evalArgs_plain (Calls.spliced_cons (wpAny_Constant_str (k := k) (pos := kp) (Calls.spliced_nil ⟨rfl, by show 1 ≤ sizeLine; decide, fun h' e hm => ?_⟩)))
  have hk : ∀ b o, s.heap.get? b = some o → h'.get? b = some o := hm.keeps
  refine p e h' (s.toks + 1) (Nat.le_succ _) ⟨fun b o q => hk b o (S.bs b o q), ?_, (S.frames X).1.of_keeps fun b o q _ => ⟨o, hk b o q, rfl⟩, (Kp.of_ext S.ext).trans (.of_ext (.of_keeps hk)), ?_⟩
  · cases hq : base.get? e with
    | none => rfl
    | some o' => have := S.bs _ _ hq; rw [show s.heap.get? e = none from hm.new] at this; cases this
  · obtain ⟨t, ht, _⟩ := hm.there
    exact ⟨_, _, ht, rfl, rfl, .inl rfl⟩
end
end Mine

open PySem PyProof.Rows
set_option maxRecDepth 10000
namespace Mine

theorem funFrames_rebase {h base base' : Heap} : ∀ {l : List Env}, h.FunFrames base l → (∀ a ∈ framesOf l, base'.get? a = none) → h.FunFrames base' l
  | [], _, _ => trivial
  | env :: rest, ⟨hk, ⟨L, o, hf, hn, ho, hd⟩, hr⟩, k => by
    have hm : L ∈ framesOf (env :: rest) := by simp [framesOf, hf]
    refine ⟨hk, ⟨L, o, hf, k L hm, ho, hd⟩, funFrames_rebase hr fun a ha => k a ?_⟩
    simp only [framesOf, List.filterMap_cons, hf]
    exact List.mem_cons_of_mem _ ha

section
variable {prog : Program} {w : World} {base0 : Heap} {mg mb : Str → Option Value} {t0 n : Nat} {C : PC} {A A' : Around} {base hE : Heap} {name : Str} {scope : Scope} {L a : Addr} {cd : Value} {outer : List Env}
  {O₀ : Lent} {ρ : PE} {m : Str → Option Value} {O : List Addr} {E : Value → Shared → Prop} {s : Shared} {Q : Flow → Shared → Prop}

theorem load_bltA (X : CxE prog w base0 mg mb t0 n C A base hE name scope L a cd outer) (S : St base0 base hE O₀ L scope.names t0 ρ s m O) {x : Str} {v : Value} {pos : Pos} {Q : Value → Shared → Prop} (hx : scope.names.lookup x = some .globalImplicit)
    (e : bltOf x = some v) (h : Q v s) : wpAny (model prog w) A' (eval (.Name x pos) (envOf name scope L a cd)) Q E s := by
  obtain ⟨e1, e2⟩ := X.glo.blt x v e
  exact Calls.Name_function_global X.kind hx (Calls.loadGlobal_builtin (env := envOf name scope L a cd) (X.glo.g.keeps fun b o q => S.bs b o (X.b0 b o q)) e1
    (X.glo.b.keeps fun b o q => S.bs b o (X.b0 b o q)) e2 h) (name_dbg X hx)

theorem store_okA (X : CxE prog w base0 mg mb t0 n C A base hE name scope L a cd outer) (S : St base0 base hE O₀ L scope.names t0 ρ s m O) {x : Str} {v : Value} {Q : Unit → Shared → Prop} (hx : scope.names.lookup x = some .local)
    (h : ∀ h', h'.Ns L (fun y => if y = x then some v else m y) → Heap.SameBut L s.heap h' → Q () { s with heap := h', toks := s.toks + 1 }) :
    wpAny (model prog w) A' (storeName (envOf name scope L a cd) x v) Q E s :=
  wpAny_storeName_local (env := envOf name scope L a cd) hx S.ns h (notClass X)

theorem try_ok (X : CxE prog w base0 mg mb t0 n C A base hE name scope L a cd outer) (S : St base0 base hE O₀ L scope.names t0 ρ s m O) (B : OwnB base ρ m) {q : QE} {e : Expr} {x y : Str} {dc : PyData} {c : Const} {k : Nat} {xp vp yp kp p1 p2 p3 p4 : Pos}
    (hx : scope.names.lookup x = some .local) (hy : scope.names.lookup y = some .local) (h1 : scope.names.lookup (Str.ofString "ValueError") = some .globalImplicit) (hq : okE scope q e = true) (hkc : okC dc c = true)
    (pok : ∀ d, pev C ρ q = .ok d → PostX base0 base hE O₀ t0 name scope L a cd outer s (.ok (.next, upd ρ x (.dat d))) Q E)
    (pexc : pev C ρ q = .exc → PostX base0 base hE O₀ t0 name scope L a cd outer s (.ok (.next, upd ρ y (.dat dc))) Q E)
    (pbad : pev C ρ q ≠ .bad) :
    wpAny (model prog w) A (exec (.Try [.Assign [.Name x xp] e p1] [.ExceptHandler (some (.Name (Str.ofString "ValueError") vp)) none [.Assign [.Name y yp] (.Constant c k kp) p2] p3] [] [] p4) (envOf name scope L a cd)) Q E s := by
  -- a base of its own for the exception: the heap at hand, less the frames
  have ff := S.frames X
  have hfr : ∀ a' ∈ framesOf (envOf name scope L a cd :: outer), base.get? a' = none := fun a' ha => (ff.1.mem ha).1
  have b0n : ∀ a' ∈ framesOf (envOf name scope L a cd :: outer), base0.get? a' = none := fun a' ha => by
    cases hq : base0.get? a' with
    | none => rfl
    | some o => have := X.b0 _ _ hq; rw [hfr a' ha] at this; cases this
  have sg : ∀ b, (strip s.heap (framesOf (envOf name scope L a cd :: outer))).get? b = if b ∈ framesOf (envOf name scope L a cd :: outer) then none else s.heap.get? b := strip_get _ _
  generalize hbase : strip s.heap (framesOf (envOf name scope L a cd :: outer)) = base' at sg
  have LinF : L ∈ framesOf (envOf name scope L a cd :: outer) := by
    show L ∈ List.filterMap _ _
    rw [List.filterMap_cons]
    exact List.mem_cons_self ..
  have bs' : base'.StaysIn s.heap := fun b o q => by
    rw [sg] at q
    split at q
    · cases q
    · exact q
  have bb' : base.StaysIn base' := fun b o q => by
    rw [sg, if_neg (fun hm => by rw [hfr b hm] at q; cases q)]
    exact S.bs b o q
  have X' : CxE prog w base0 mg mb t0 n C A base' hE name scope L a cd outer :=
    ⟨X.glo, X.hh, X.fr, X.dep, X.uni, fun b o q => bb' b o (X.b0 b o q), ⟨funFrames_rebase X.ff.1 fun a' ha => by
      rw [sg, if_pos]
      show a' ∈ List.filterMap _ _
      rw [List.filterMap_cons]
      exact List.mem_cons_of_mem _ ha, X.ff.2⟩, X.kind, X.dbg⟩
  have S' : St base0 base' hE O₀ L scope.names t0 ρ s m O :=
    ⟨S.ns, bs', S.ext, S.lo, S.out, S.gh, S.ob, S.al, by rw [sg, if_pos LinF], S.le, S.dat, S.own, S.dis, S.loc, S.tk⟩
  refine wpAny_Try_except (wpAny_execs_cons (wpAny_Assign_Name (pev_ok X' hq s _ S' ?_) (swaps_none (okE_not hq).2.1)))
  cases hpe : pev C ρ q with
  | bad => exact absurd hpe pbad
  | ok d =>
    intro v h' tk' g r
    have g' : Grow base s h' tk' := ⟨g.ext, fun b o q => g.bs b o (bb' b o q), g.tk⟩
    refine store_ok X (S.grow g') hx fun h2' hn hs => ?_
    refine wpAny_execs_nil (wpAny_execs_nil ?_)
    exact pok d hpe .next h2' (tk' + 1) _ O (Nat.le_succ_of_le g.tk) ((S.grow g').store hx hn hs r) (B.store x d v) trivial
  | exc =>
    intro ex h' tk' ht xs
    have extOf : ∀ h2, ExcSt base' (envOf name scope L a cd :: outer) s.heap ex h2 → Ext s.heap h2 := by
      intro h2 ⟨q1, _, _, q4, _⟩ b o ho
      by_cases hb : b ∈ framesOf (envOf name scope L a cd :: outer)
      · obtain ⟨o', es, ep, k1, k2⟩ := ff.2 b hb
        rw [ho] at k1; cases k1
        exact .inr ⟨⟨es, ep, k2⟩, q4 b o ho fun vs q => by rw [k2] at q; cases q⟩
      · exact .inl (q1 b o (by rw [sg, if_neg hb]; exact ho))
    refine note_ok (s := { s with heap := h', toks := tk' }) X.fr (show (envOf name scope L a cd).frame = some L from rfl) xs fun h2' xs2 tr => ?_
    have g2 : Grow base s h2' tk' := ⟨extOf h2' xs2, fun b o q => xs2.1 b o (bb' b o q), ht⟩
    have S2 := S.grow g2
    refine wpAny_handleBy_builtin (X := "ValueError") (T := "ValueError") (b := true) ?_ ?_ ?_ ?_
    · exact F.isExc_ValueError
    · exact F.notTuple_ValueError
    · exact F.self_ValueError
    refine load_bltA X S2 h1 bltOf_VE ⟨rfl, ?_, ?_⟩
    · obtain ⟨_, _, _, _, oe, vs, he, hcl, _⟩ := xs2
      exact ⟨oe, he, hcl⟩
    · rw [if_pos rfl]
      refine flight_ok (s := { s with heap := h2', toks := tk' }) xs2 tr fun h3' xs3 => ?_
      have g3 : Grow base s h3' tk' := ⟨extOf h3' xs3, fun b o q => xs3.1 b o (bb' b o q), ht⟩
      have S3 := S.grow g3
      have p3 := PostS.later (h' := h3') g3.tk (pexc hpe)
      refine wpAny_execs_cons (wpAny_Assign_Name (con_ok (O := O) (base := base) (l := []) hkc S3.bs (S3.tpos X) ?_) (swaps_none rfl))
      intro v h4' tk4 g4 r4
      refine store_okA X (S3.grow g4) hy fun h5 hn hs => wpAny_execs_nil ?_
      exact p3 .next h5 (tk4 + 1) _ O (Nat.le_succ_of_le g4.tk) ((S3.grow g4).store hy hn hs r4) (B.store y dc v) trivial
end
end Mine

open PySem PyProof.Rows
set_option maxRecDepth 10000
namespace Mine

section
variable {prog : Program} {w : World} {base0 : Heap} {mg mb : Str → Option Value} {t0 n : Nat} {C : PC} {A : Around} {base hE : Heap} {name : Str} {scope : Scope} {L a : Addr} {cd : Value} {outer : List Env}
  {O₀ : Lent} {ρ : PE} {m : Str → Option Value} {O : List Addr} {E : Value → Shared → Prop} {s : Shared} {Q : Flow → Shared → Prop}

/-- the body of a loop is sound -/
noncomputable def BodyOK (prog : Program) (w : World) (base0 : Heap) (t0 : Nat) (A : Around) (base hE : Heap) (name : Str) (scope : Scope) (L a : Addr) (cd : Value) (outer : List Env) (E : Value → Shared → Prop) (f : PE → Out (Fl × PE)) (b : List Stmt) : Prop :=
  ∀ (O₀ : Lent) (ρ : PE) (s : Shared) (m : Str → Option Value) (O : List Addr) (Q : Flow → Shared → Prop), St base0 base hE O₀ L scope.names t0 ρ s m O → OwnB base ρ m →
    PostX base0 base hE O₀ t0 name scope L a cd outer s (f ρ) Q E → wpAny (model prog w) A (execs b (envOf name scope L a cd)) Q E s

/-- after a turn -/
theorem PostS.turn {O₁ : Lent} {o : Out (Fl × PE)} {k : PE → Out (Fl × PE)} {l : List Env} {Q' : Flow → Shared → Prop} (h1 : ∀ a ∈ O₁.ad, a ∈ O₀.ad) (h2 : ∀ q ∈ O₁.gh, q ∈ O₀.gh) (h3 : ∀ q ∈ O₁.ob, q ∈ O₀.ob ∧ q.1 ∈ O₁.ad)
    (p : PostS base0 base hE O₁ L scope.names t0 l s (o.bind fun r => match r.1 with | .next => k r.2 | .cont => k r.2 | .brk => .ok (.next, r.2) | .ret d => .ok (.ret d, r.2)) Q E)
    (kn : ∀ ρ' fl h' tk' m' O', (fl = .next ∨ fl = .cont) → s.toks ≤ tk' → St base0 base hE O₀ L scope.names t0 ρ' { s with heap := h', toks := tk' } m' O' → OwnB base ρ' m' → PostS base0 base hE O₁ L scope.names t0 l { s with heap := h', toks := tk' } (k ρ') Q E → Q' fl { s with heap := h', toks := tk' })
    (kb : ∀ s', Q .next s' → Q' .brk s') (kr : ∀ v s', Q (.ret v) s' → Q' (.ret v) s') : PostS base0 base hE O₀ L scope.names t0 l s o Q' E := by
  cases o with
  | bad => exact p
  | exc => exact p
  | ok r =>
    intro fl h' tk' m' O' ht S B f
    obtain ⟨f0, ρ'⟩ := r
    cases f0 with
    | next => cases fl <;> first | exact f.elim | exact kn ρ' .next h' tk' m' O' (.inl rfl) ht S B (PostS.later ht p)
    | cont => cases fl <;> first | exact f.elim | exact kn ρ' .cont h' tk' m' O' (.inr rfl) ht S B (PostS.later ht p)
    | brk => cases fl <;> first | exact f.elim | exact kb _ (p .next h' tk' m' O' ht (S.back h1 h2 h3) B trivial)
    | ret d => cases fl <;> first | exact f.elim | exact kr _ _ (p (.ret _) h' tk' m' O' ht (S.back h1 h2 h3) B f)

theorem while_ok (X : CxE prog w base0 mg mb t0 n C A base hE name scope L a cd outer) (hE' : PassesOwn (model prog w) A (envOf name scope L a cd) E) {q : QE} {t : Expr} {b : List Stmt} {f : PE → Out (Fl × PE)} {pos : Pos}
    (hq : okE scope q t = true) (hb : BodyOK prog w base0 t0 A base hE name scope L a cd outer E f b) (S : St base0 base hE O₀ L scope.names t0 ρ s m O) (B : OwnB base ρ m) (k : Nat)
    (p : PostX base0 base hE O₀ t0 name scope L a cd outer s (pwhile (fun ρ => ptest C ρ q) f k ρ) Q E) : wpAny (model prog w) A (exec (.While t b [] pos) (envOf name scope L a cd)) Q E s := by
  refine wpAny_While ?_
  refine codeAny_whileLoop (fun k s' => ∃ ρ m O, St base0 base hE O₀ L scope.names t0 ρ s' m O ∧ OwnB base ρ m ∧ PostX base0 base hE O₀ t0 name scope L a cd outer s' (pwhile (fun ρ => ptest C ρ q) f k ρ) Q E) ?_ k ⟨ρ, m, O, S, B, p⟩
  rintro k s ⟨ρ, m, O, S, B, p⟩
  cases k with
  | zero => exact p.elim
  | succ k =>
    unfold pwhile at p
    refine wpAny_passesOwn hE' (test_ok X hq s _ S (PostS.bind S p fun bv v h' tk' _ g r p' => ?_))
    obtain rfl : v = bv := r
    cases v with
    | false =>
      simp only [Bool.false_eq_true, if_false]
      exact wpAny_execs_nil (p' .next h' tk' m O (Nat.le_refl _) (S.grow g) B trivial)
    | true =>
      simp only [if_true]
      refine wpAny_passesOwn hE' (hb O₀ ρ _ m O _ (S.grow g) B (PostS.turn (fun _ h => h) (fun _ h => h) (fun q h => ⟨h, (S.ob q h).1⟩) p' ?_ ?_ ?_))
      · intro ρ' fl h2 tk2 m2 O2 hfl ht S2 B2 p2
        rcases hfl with rfl | rfl
        · exact ⟨k, Nat.lt_succ_self k, ρ', m2, O2, S2, B2, p2⟩
        · exact ⟨k, Nat.lt_succ_self k, ρ', m2, O2, S2, B2, p2⟩
      · intro s' q; exact q
      · intro v s' q; exact q

abbrev Lent.with (O₁ : Lent) (Z : List Addr) (gh : List (Value × PyData)) (ob : List (Addr × Obj)) : Lent := ⟨Z ++ O₁.ad, gh ++ O₁.gh, ob ++ O₁.ob⟩

/-- an iterator: its addresses, what it holds, its objects at each step -/
structure Walk (prog : Program) (w : World) (A : Around) (base0 base hE : Heap) (L : Addr) (names : List (Str × NameKind)) (t0 : Nat) (O₁ : Lent) (it : Addr) (Z : List Addr) (gh : List (Value × PyData)) (P : Nat → List (Addr × Obj) → Prop) (ds : List PyData) : Prop where
  apart : ∀ z ∈ Z, z ∉ O₁.ad ∧ z ≠ L ∧ base.get? z = none ∧ hE.get? z = none
  next : ∀ i d s ρ m O ob (Q : Option Value → Shared → Prop) (E : Value → Shared → Prop), St base0 base hE (O₁.with Z gh ob) L names t0 ρ s m O → P i ob → ds[i]? = some d →
    (∀ v h' tk' ob', (∀ b o, b ∉ Z → s.heap.get? b = some o → h'.get? b = some o) → (∀ z ∈ Z, (h'.get? z).isSome) → (∀ q ∈ ob', q.1 ∈ Z ∧ h'.get? q.1 = some q.2 ∧ ∀ es ep, q.2.data ≠ .dict es ep) → s.toks ≤ tk' → Rep h' O tk' d v → P (i + 1) ob' → Q (some v) { s with heap := h', toks := tk' }) →
    wpAny (model prog w) A (pyNext (.ref it)) Q E s
  stop : ∀ i s ρ m O ob (Q : Option Value → Shared → Prop) (E : Value → Shared → Prop), St base0 base hE (O₁.with Z gh ob) L names t0 ρ s m O → P i ob → ds[i]? = none →
    (∀ h', (∀ b o, b ∉ Z → s.heap.get? b = some o → h'.get? b = some o) → Q none { s with heap := h' }) →
    wpAny (model prog w) A (pyNext (.ref it)) Q E s

/-- the state when a loop goes its next turn, the iterator touched -/
theorem St.turned {O₁ : Lent} {it : Addr} {Z : List Addr} {gh : List (Value × PyData)} {P : Nat → List (Addr × Obj) → Prop} {ds : List PyData} {ob ob' : List (Addr × Obj)} (W : Walk prog w A base0 base hE L scope.names t0 O₁ it Z gh P ds)
    (S : St base0 base hE (O₁.with Z gh ob) L scope.names t0 ρ s m O) (h1 : ∀ q ∈ O₁.ob, q.1 ∈ O₁.ad) {h' : Heap} {tk' : Nat} (k1 : ∀ b o, b ∉ Z → s.heap.get? b = some o → h'.get? b = some o) (k2 : ∀ z ∈ Z, (h'.get? z).isSome) (k3 : ∀ q ∈ ob', q.1 ∈ Z ∧ h'.get? q.1 = some q.2 ∧ ∀ es ep, q.2.data ≠ .dict es ep) (ht : s.toks ≤ tk') :
    St base0 base hE (O₁.with Z gh ob') L scope.names t0 ρ { s with heap := h', toks := tk' } m O :=
  S.touch (fun z hz => ⟨List.mem_append_left _ hz, (W.apart z hz).2⟩) k1 k2 ht fun q hq => by
    rcases List.mem_append.mp hq with e | e
    · exact .inr (k3 q e)
    · exact .inl ⟨List.mem_append_right _ e, fun hz => (W.apart _ hz).1 (h1 q e)⟩

/-- the iterator has ended and is let go -/
theorem St.dropped {O₁ : Lent} {it : Addr} {Z : List Addr} {gh : List (Value × PyData)} {P : Nat → List (Addr × Obj) → Prop} {ds : List PyData} {ob : List (Addr × Obj)} (W : Walk prog w A base0 base hE L scope.names t0 O₁ it Z gh P ds)
    (S : St base0 base hE (O₁.with Z gh ob) L scope.names t0 ρ s m O) (h1 : ∀ q ∈ O₁.ob, q.1 ∈ O₁.ad) {h' : Heap} (k : ∀ b o, b ∉ Z → s.heap.get? b = some o → h'.get? b = some o) :
    ∃ O', St base0 base hE O₁ L scope.names t0 ρ { s with heap := h' } m O' := by
  classical
  have zin : ∀ z ∈ Z, z ∈ O := fun z hz => S.out z (List.mem_append_left _ hz)
  have c : Carry s.heap O h' (O.filter fun a => decide (a ∉ Z)) := fun b o hb e => ⟨fun hm => hb (List.mem_filter.mp hm).1, o.slots, k b o (fun q => hb (zin b q)) e⟩
  have lz : L ∉ Z := fun hm => (W.apart L hm).2.1 rfl
  refine ⟨O.filter fun a => decide (a ∉ Z), ?_, ?_, ?_, ?_, ?_, ?_, ?_, ?_, S.lb, S.le, ?_, ?_, S.dis, S.loc, S.tk⟩
  · obtain ⟨o, es, ep, ho, r⟩ := S.ns
    exact ⟨o, es, ep, k L o lz ho, r⟩
  · exact fun b o e => k b o (fun q => by rw [(W.apart b q).2.2.1] at e; cases e) (S.bs b o e)
  · intro b o e
    exact S.ext.on (fun b o o' e e' => k b o' (fun q => by rw [(W.apart b q).2.2.2] at e; cases e) e') b o e
  · exact List.mem_filter.mpr ⟨S.lo, decide_eq_true lz⟩
  · exact fun a ha => List.mem_filter.mpr ⟨S.out a (List.mem_append_right _ ha), decide_eq_true fun hz => (W.apart a hz).1 ha⟩
  · exact fun q hq => (S.gh q (List.mem_append_right _ hq)).carry c (Nat.le_refl _)
  · intro q hq
    obtain ⟨k1, k2, k3, k4⟩ := S.ob q (List.mem_append_right _ hq)
    exact ⟨h1 q hq, k2, k _ _ (fun hz => (W.apart _ hz).1 (h1 q hq)) k3, k4⟩
  · intro a ha
    obtain ⟨ha1, ha2⟩ := List.mem_filter.mp ha
    refine ⟨?_, (S.al a ha1).2⟩
    cases hx : s.heap.get? a with
    | none => have := (S.al a ha1).1; rw [hx] at this; cases this
    | some o => rw [k a o (of_decide_eq_true ha2) hx]; rfl
  · intro x d e
    obtain ⟨v, h1, h2⟩ := S.dat x d e
    exact ⟨v, h1, h2.carry c (Nat.le_refl _)⟩
  · intro x ds e
    obtain ⟨a, h1, h2, h3, h4, h5⟩ := S.own x ds e
    have az : a ∉ Z := fun hz => h4.1 (List.mem_append_left _ hz)
    exact ⟨a, h1, List.mem_filter.mpr ⟨h2, decide_eq_true az⟩, h3, ⟨fun hm => h4.1 (List.mem_append_right _ hm), h4.2⟩, h5.carry c (Nat.le_refl _) fun ob ho => ⟨ob.slots, k a ob az ho⟩⟩

theorem forName_ok (X : CxE prog w base0 mg mb t0 n C A base hE name scope L a cd outer) (hE' : PassesOwn (model prog w) A (envOf name scope L a cd) E) {x : String} {xp : Pos} {b : List Stmt} {f : PE → Out (Fl × PE)} {it : Addr} {Z : List Addr} {gh : List (Value × PyData)}
    {P : Nat → List (Addr × Obj) → Prop} {ds : List PyData} {R : Result → Shared → Prop} {O₁ : Lent} {ob : List (Addr × Obj)} (hx : scope.names.lookup (Str.ofString x) = some .local) (hb : BodyOK prog w base0 t0 A base hE name scope L a cd outer E f b)
    (W : Walk prog w A base0 base hE L scope.names t0 O₁ it Z gh P ds) (h1 : ∀ q ∈ O₁.ob, q.1 ∈ O₁.ad) (hR : R = fun r s' => match r with | .ok fl => Q fl s' | .error e => cameBackBy (model prog w) A (envOf name scope L a cd) E e s')
    (S : St base0 base hE (O₁.with Z gh ob) L scope.names t0 ρ s m O) (B : OwnB base ρ m) (hP : P 0 ob)
    (p : PostX base0 base hE O₁ t0 name scope L a cd outer s (pfor [x] f ds ρ) Q E) : codeAny (model prog w) A (.forLoop (.Name (Str.ofString x) xp) (.ref it) b [] (envOf name scope L a cd)) R s := by
  subst hR
  refine codeAny_forLoop (fun k s' => ∃ ρ m O i ob, k = ds.length - i ∧ i ≤ ds.length ∧ St base0 base hE (O₁.with Z gh ob) L scope.names t0 ρ s' m O ∧ OwnB base ρ m ∧ P i ob ∧ PostX base0 base hE O₁ t0 name scope L a cd outer s' (pfor [x] f (ds.drop i) ρ) Q E)
    ?_ ds.length ⟨ρ, m, O, 0, ob, by omega, Nat.zero_le _, S, B, hP, by simpa using p⟩
  rintro k s ⟨ρ, m, O, i, ob, hk, hi, S, B, hP, p⟩
  refine wpAny_passesOwn hE' ?_
  rcases Nat.lt_or_ge i ds.length with hlt | hge
  · have hd : ds[i]? = some ds[i] := List.getElem?_eq_getElem hlt
    have hdrop : ds.drop i = ds[i] :: ds.drop (i + 1) := List.drop_eq_getElem_cons hlt
    rw [hdrop] at p
    unfold pfor setT at p
    dsimp only at p
    refine W.next i ds[i] s ρ m O ob _ E S hP hd fun v h' tk' ob' k1 k2 k3 ht r P1 => ?_
    have S1 := S.turned W h1 k1 k2 k3 ht
    have p1 := PostS.later (h' := h') ht p
    refine wpAny_assign_Name (store_ok X S1 hx fun h2' hn hs => ?_)
    have S2 := S1.store hx hn hs r
    have p2 := PostS.later (h' := h2') (Nat.le_succ tk') p1
    refine wpAny_passesOwn hE' (hb _ _ _ _ _ _ S2 (B.store (Str.ofString x) _ v) (PostS.turn (fun a ha => List.mem_append_right _ ha) (fun q hq => List.mem_append_right _ hq) (fun q hq => ⟨List.mem_append_right _ hq, h1 q hq⟩) p2 ?_ ?_ ?_))
    · intro ρ' fl h3 tk3 m3 O3 hfl ht3 S3 B3 p3
      have key : ∃ m, m < k ∧ ∃ ρ₁ m₁ O₁' i₁ ob₁, m = ds.length - i₁ ∧ i₁ ≤ ds.length ∧ St base0 base hE (O₁.with Z gh ob₁) L scope.names t0 ρ₁ { s with heap := h3, toks := tk3 } m₁ O₁' ∧ OwnB base ρ₁ m₁ ∧ P i₁ ob₁ ∧ PostX base0 base hE O₁ t0 name scope L a cd outer { s with heap := h3, toks := tk3 } (pfor [x] f (ds.drop i₁) ρ₁) Q E := by
        refine ⟨ds.length - (i + 1), by omega, ρ', m3, O3, i + 1, ob', rfl, hlt, S3, B3, P1, p3⟩
      rcases hfl with rfl | rfl
      · exact key
      · exact key
    · intro s' q; exact q
    · intro v s' q; exact q
  · have hd : ds[i]? = none := List.getElem?_eq_none hge
    rw [List.drop_eq_nil_of_le hge] at p
    unfold pfor at p
    refine W.stop i s ρ m O ob _ E S hP hd fun h' k1 => ?_
    obtain ⟨O', S1⟩ := S.dropped W h1 k1
    exact wpAny_execs_nil (p .next h' s.toks m O' (Nat.le_refl _) S1 B trivial)

/-- an iterator object is made and lent -/
theorem St.lendIter {O₁ : Lent} (S : St base0 base hE O₁ L scope.names t0 ρ s m O) (hb : base0.StaysIn base) (o : Obj) (hf : o.isFreed = false) (hnd : ∀ es ep, o.data ≠ .dict es ep) {gh : List (Value × PyData)} (hg : ∀ q ∈ gh, Rep s.heap O s.toks q.2 q.1) :
    St base0 base hE (O₁.with [s.heap.objs.size] gh [(s.heap.objs.size, o)]) L scope.names t0 ρ { s with heap := s.heap.push o } m (s.heap.objs.size :: O) := by
  have S1 := S.lend o hf hb
  have fresh : s.heap.get? s.heap.objs.size = none := Heap.get?_none_of_le (Nat.le_refl _)
  have c : Carry s.heap O (s.heap.push o) (s.heap.objs.size :: O) := fun b ob hb e => by
    refine ⟨fun hm => ?_, ob.slots, Heap.get?_push_of_some _ e⟩
    rcases List.mem_cons.mp hm with q | q
    · rw [q, fresh] at e; cases e
    · exact hb q
  refine ⟨S1.ns, S1.bs, S1.ext, S1.lo, S1.out, fun q hq => ?_, fun q hq => ?_, S1.al, S1.lb, S1.le, S1.dat, S1.own, S1.dis, S1.loc, S1.tk⟩
  · rcases List.mem_append.mp hq with e | e
    · exact (hg q e).carry c (Nat.le_refl _)
    · exact S1.gh q e
  · rcases List.mem_append.mp hq with e | e
    · rw [List.mem_singleton.mp e]
      refine ⟨List.mem_cons_self .., fun q => ?_, Heap.get?_push_size _ hf, hnd⟩
      have := (S.al L S.lo).1
      rw [← q, fresh] at this; cases this
    · exact S1.ob q e

/-- a fresh address lies apart -/
theorem fresh_apart {O₁ : Lent} (S : St base0 base hE O₁ L scope.names t0 ρ s m O) : s.heap.objs.size ∉ O₁.ad ∧ s.heap.objs.size ≠ L ∧ base.get? s.heap.objs.size = none ∧ hE.get? s.heap.objs.size = none := by
  have fresh : s.heap.get? s.heap.objs.size = none := Heap.get?_none_of_le (Nat.le_refl _)
  refine ⟨fun hm => ?_, fun q => ?_, ?_, ?_⟩
  · have := (S.al _ (S.out _ hm)).1; rw [fresh] at this; cases this
  · have := (S.al L S.lo).1; rw [← q, fresh] at this; cases this
  · cases hq : base.get? s.heap.objs.size with
    | none => rfl
    | some o' => have := S.bs _ _ hq; rw [fresh] at this; cases this
  · cases hq : hE.get? s.heap.objs.size with
    | none => rfl
    | some o' => obtain ⟨sl, q⟩ := S.ext.sl _ _ hq; rw [fresh] at q; cases q

theorem walk_list {O₁ : Lent} {it l : Addr} {ds : List PyData} (hh : A.handled = none) (ap : it ∉ O₁.ad ∧ it ≠ L ∧ base.get? it = none ∧ hE.get? it = none) :
    Walk prog w A base0 base hE L scope.names t0 O₁ it [it] [(.ref l, .list ds)] (fun i ob => ∃ o, ob = [(it, o)] ∧ o.cls = .type "list_iterator" ∧ o.data = .fields #[.ref l, .int i 0]) ds where
  apart := fun z hz => by rw [List.mem_singleton.mp hz]; exact ap
  next := by
    rintro i d s ρ m O ob Q E S ⟨o, rfl, hc, hd⟩ hx k
    obtain ⟨_, _, hg, _⟩ := S.ob (it, o) (List.mem_append_left _ (List.mem_singleton.mpr rfl))
    obtain ⟨l', its, el, hl, rs⟩ := list_of_rep (S.gh (.ref l, .list ds) (List.mem_append_left _ (List.mem_singleton.mpr rfl)))
    cases el
    obtain ⟨v, hv, rv⟩ := rs.get hx
    have hit : s.heap.IsListIter it l i := ⟨_, hg, hc, hd⟩
    refine wpAny_pyNext_list_item hit hl (by simpa using hv) fun h' hit' hs => ?_
    obtain ⟨o', e1, e2, e3⟩ := hit'
    have c : Carry s.heap O h' O := .same (S.out it (List.mem_append_left _ (List.mem_singleton.mpr rfl))) hs
    refine k v h' s.toks [(it, o')] (fun b ob hb e => (hs.2 b (fun q => hb (by rw [q]; exact List.mem_singleton.mpr rfl))).trans e) ?_ ?_ (Nat.le_refl _) (rv.carry c (Nat.le_refl _)) ⟨o', rfl, e2, e3⟩
    · intro z hz; rw [List.mem_singleton.mp hz, e1]; rfl
    · intro q hq; rw [List.mem_singleton.mp hq]; exact ⟨List.mem_singleton.mpr rfl, e1, fun es ep q => by rw [e3] at q; cases q⟩
  stop := by
    rintro i s ρ m O ob Q E S ⟨o, rfl, hc, hd⟩ hx k
    obtain ⟨_, _, hg, _⟩ := S.ob (it, o) (List.mem_append_left _ (List.mem_singleton.mpr rfl))
    obtain ⟨l', its, el, hl, rs⟩ := list_of_rep (S.gh (.ref l, .list ds) (List.mem_append_left _ (List.mem_singleton.mpr rfl)))
    cases el
    have hit : s.heap.IsListIter it l i := ⟨_, hg, hc, hd⟩
    have hn := rs.length
    simp only [Array.length_toList] at hn
    refine wpAny_pyNext_list_end hh hit hl (by rw [List.getElem?_eq_none_iff] at hx; rw [Array.getElem?_eq_none_iff]; omega) fun h' hs => ?_
    exact k h' fun b o hb e => hs b o (fun q => hb (by rw [q]; exact List.mem_singleton.mpr rfl)) e

theorem walk_tuple {O₁ : Lent} {it l : Addr} {ds : List PyData} (hh : A.handled = none) (ap : it ∉ O₁.ad ∧ it ≠ L ∧ base.get? it = none ∧ hE.get? it = none) :
    Walk prog w A base0 base hE L scope.names t0 O₁ it [it] [(.ref l, .tuple ds)] (fun i ob => ∃ o, ob = [(it, o)] ∧ o.cls = .type "tuple_iterator" ∧ o.data = .fields #[.ref l, .int i 0]) ds where
  apart := fun z hz => by rw [List.mem_singleton.mp hz]; exact ap
  next := by
    rintro i d s ρ m O ob Q E S ⟨o, rfl, hc, hd⟩ hx k
    obtain ⟨_, _, hg, _⟩ := S.ob (it, o) (List.mem_append_left _ (List.mem_singleton.mpr rfl))
    obtain ⟨l', its, el, hl, rs⟩ := tuple_of_rep (S.gh (.ref l, .tuple ds) (List.mem_append_left _ (List.mem_singleton.mpr rfl)))
    cases el
    obtain ⟨v, hv, rv⟩ := rs.get hx
    have hit : s.heap.IsTupleIter it l i := ⟨_, hg, hc, hd⟩
    refine wpAny_pyNext_tuple_item hit hl (by simpa using hv) fun h' hit' hs => ?_
    obtain ⟨o', e1, e2, e3⟩ := hit'
    have c : Carry s.heap O h' O := .same (S.out it (List.mem_append_left _ (List.mem_singleton.mpr rfl))) hs
    refine k v h' s.toks [(it, o')] (fun b ob hb e => (hs.2 b (fun q => hb (by rw [q]; exact List.mem_singleton.mpr rfl))).trans e) ?_ ?_ (Nat.le_refl _) (rv.carry c (Nat.le_refl _)) ⟨o', rfl, e2, e3⟩
    · intro z hz; rw [List.mem_singleton.mp hz, e1]; rfl
    · intro q hq; rw [List.mem_singleton.mp hq]; exact ⟨List.mem_singleton.mpr rfl, e1, fun es ep q => by rw [e3] at q; cases q⟩
  stop := by
    rintro i s ρ m O ob Q E S ⟨o, rfl, hc, hd⟩ hx k
    obtain ⟨_, _, hg, _⟩ := S.ob (it, o) (List.mem_append_left _ (List.mem_singleton.mpr rfl))
    obtain ⟨l', its, el, hl, rs⟩ := tuple_of_rep (S.gh (.ref l, .tuple ds) (List.mem_append_left _ (List.mem_singleton.mpr rfl)))
    cases el
    have hit : s.heap.IsTupleIter it l i := ⟨_, hg, hc, hd⟩
    have hn := rs.length
    simp only [Array.length_toList] at hn
    refine wpAny_pyNext_tuple_end hh hit hl (by rw [List.getElem?_eq_none_iff] at hx; rw [Array.getElem?_eq_none_iff]; omega) fun h' hs => ?_
    exact k h' fun b o hb e => hs b o (fun q => hb (by rw [q]; exact List.mem_singleton.mpr rfl)) e

theorem walk_str {O₁ : Lent} {it : Addr} {x : Str} {t : Tok} {T : String} (hh : A.handled = none) (hpos : 0 < t0) (hk : PyData.strOk x = true) (hT : T = "str_ascii_iterator" ∨ T = "str_iterator") (ap : it ∉ O₁.ad ∧ it ≠ L ∧ base.get? it = none ∧ hE.get? it = none) :
    Walk prog w A base0 base hE L scope.names t0 O₁ it [it] [] (fun i ob => ∃ o, ob = [(it, o)] ∧ o.cls = .type T ∧ o.data = .fields #[.str x t, .int i 0]) (signsD x) where
  apart := fun z hz => by rw [List.mem_singleton.mp hz]; exact ap
  next := by
    rintro i d s ρ m O ob Q E S ⟨o, rfl, hc, hd⟩ hx k
    obtain ⟨_, _, hg, _⟩ := S.ob (it, o) (List.mem_append_left _ (List.mem_singleton.mpr rfl))
    simp only [signsD, List.getElem?_map, Option.map_eq_some_iff] at hx
    obtain ⟨c, hcx, rfl⟩ := hx
    have hcx' : x.cps[i]? = some c := by simpa using hcx
    have hit : s.heap.IsStrIter it T x t i := ⟨_, hg, hc, hd⟩
    have fin : ∀ h', h'.IsStrIter it T x t (i + 1) → Heap.SameBut it s.heap h' → Q (some (.str ⟨#[c]⟩ s.toks)) { s with heap := h', toks := s.toks + 1 } := by
      intro h' hit' hs
      obtain ⟨o', e1, e2, e3⟩ := hit'
      refine k _ h' (s.toks + 1) [(it, o')] (fun b ob hb e => (hs.2 b (fun q => hb (by rw [q]; exact List.mem_singleton.mpr rfl))).trans e) ?_ ?_ (Nat.le_succ _) (repStr (Nat.lt_of_lt_of_le hpos S.tk) (Nat.lt_succ_self _) ?_) ⟨o', rfl, e2, e3⟩
      · intro z hz; rw [List.mem_singleton.mp hz, e1]; rfl
      · intro q hq; rw [List.mem_singleton.mp hq]; exact ⟨List.mem_singleton.mpr rfl, e1, fun es ep q => by rw [e3] at q; cases q⟩
      · refine ok_sub hk fun y hy => ?_
        simp only [List.mem_singleton] at hy
        subst hy
        exact List.mem_of_getElem? hcx
    rcases hT with rfl | rfl
    · exact wpAny_pyNext_ascii_item hit hcx' fin
    · exact wpAny_pyNext_wide_item hit hcx' fin
  stop := by
    rintro i s ρ m O ob Q E S ⟨o, rfl, hc, hd⟩ hx k
    obtain ⟨_, _, hg, _⟩ := S.ob (it, o) (List.mem_append_left _ (List.mem_singleton.mpr rfl))
    have hit : s.heap.IsStrIter it T x t i := ⟨_, hg, hc, hd⟩
    have hx' : x.cps[i]? = none := by
      simp only [signsD, List.getElem?_map, Option.map_eq_none_iff] at hx
      simpa using hx
    have fin : ∀ h', Heap.ExtBut it s.heap h' → Q none { s with heap := h' } := fun h' hs => k h' fun b o hb e => hs b o (fun q => hb (by rw [q]; exact List.mem_singleton.mpr rfl)) e
    rcases hT with rfl | rfl
    · exact wpAny_pyNext_ascii_end hh hit hx' fin
    · exact wpAny_pyNext_wide_end hh hit hx' fin
end
end Mine

open PySem PyProof.Rows
set_option maxRecDepth 10000
namespace Mine

section
variable {prog : Program} {w : World} {base0 : Heap} {mg mb : Str → Option Value} {t0 n : Nat} {C : PC} {A : Around} {base hE : Heap} {name : Str} {scope : Scope} {L a : Addr} {cd : Value} {outer : List Env}
  {O₀ : Lent} {ρ : PE} {m : Str → Option Value} {O : List Addr} {E : Value → Shared → Prop} {s : Shared} {Q : Flow → Shared → Prop}

theorem walk_range {O₁ : Lent} {it : Addr} {k : Int} (hh : A.handled = none) (hk : 0 ≤ k) (ap : it ∉ O₁.ad ∧ it ≠ L ∧ base.get? it = none ∧ hE.get? it = none) :
    Walk prog w A base0 base hE L scope.names t0 O₁ it [it] [] (fun i ob => ob = [(it, { cls := .type "range_iterator", dict := none, data := .fields #[rawInt i, rawInt (k - i), rawInt 1], slots := #[] })]) (rangeD k) where
  apart := fun z hz => by rw [List.mem_singleton.mp hz]; exact ap
  next := by
    rintro i d s ρ m O ob Q E S rfl hx kk
    obtain ⟨_, _, hg, _⟩ := S.ob _ (List.mem_append_left _ (List.mem_singleton.mpr rfl))
    simp only [rangeD, List.getElem?_map, Option.map_eq_some_iff] at hx
    obtain ⟨j, hj, rfl⟩ := hx
    obtain ⟨hj1, hj2⟩ := List.getElem?_eq_some_iff.mp hj
    simp only [List.length_range] at hj1
    simp only [List.getElem_range] at hj2
    subst hj2
    refine wpAny_pyNext_range_item (x := (i : Int)) (left := k - i) (step := 1) hg (by omega) fun h' hit' hs => ?_
    have e1 : h'.get? it = some { cls := .type "range_iterator", dict := none, data := .fields #[rawInt ((i + 1 : Nat) : Int), rawInt (k - ((i + 1 : Nat) : Int)), rawInt 1], slots := #[] } := by
      rw [show h'.get? it = _ from hit', show ((i : Int) + 1) = ((i + 1 : Nat) : Int) from by omega, show (k - (i : Int) - 1) = (k - ((i + 1 : Nat) : Int)) from by omega]
    refine kk _ h' (s.toks + 1) _ (fun b ob hb e => (hs.2 b (fun q => hb (by rw [q]; exact List.mem_singleton.mpr rfl))).trans e) ?_ ?_ (Nat.le_succ _) ⟨_, rfl⟩ rfl
    · intro z hz; rw [List.mem_singleton.mp hz, e1]; rfl
    · intro q hq; rw [List.mem_singleton.mp hq]; exact ⟨List.mem_singleton.mpr rfl, e1, fun es ep q => by cases q⟩
  stop := by
    rintro i s ρ m O ob Q E S rfl hx kk
    obtain ⟨_, _, hg, _⟩ := S.ob _ (List.mem_append_left _ (List.mem_singleton.mpr rfl))
    simp only [rangeD, List.getElem?_map, Option.map_eq_none_iff, List.getElem?_eq_none_iff, List.length_range] at hx
    refine wpAny_pyNext_range_end (x := (i : Int)) (left := k - i) (step := 1) hh hg (by omega) fun h' hs => ?_
    exact kk h' fun b o hb e => hs b o (fun q => hb (by rw [q]; exact List.mem_singleton.mpr rfl)) e

theorem folded_none {it : Expr} {env : Env} (h : notSet it = true) (x : Value) : foldedSetIterable it env x = pure x := by
  cases it <;> first | rfl | exact (Bool.false_ne_true h).elim

/-- a loop over what stands: list, tuple, text -/
theorem iter_ok (X : CxE prog w base0 mg mb t0 n C A base hE name scope L a cd outer) (hE' : PassesOwn (model prog w) A (envOf name scope L a cd) E) {x : String} {xp : Pos} {b : List Stmt} {f : PE → Out (Fl × PE)} {R : Result → Shared → Prop} {d : PyData} {v : Value}
    (hx : scope.names.lookup (Str.ofString x) = some .local) (hb : BodyOK prog w base0 t0 A base hE name scope L a cd outer E f b) (hR : R = fun r s' => match r with | .ok fl => Q fl s' | .error e => cameBackBy (model prog w) A (envOf name scope L a cd) E e s')
    (S : St base0 base hE O₀ L scope.names t0 ρ s m O) (B : OwnB base ρ m) (r : Rep s.heap O s.toks d v)
    (p : PostX base0 base hE O₀ t0 name scope L a cd outer s ((piter d).bind fun ds => pfor [x] f ds ρ) Q E) :
    wpAny (model prog w) A (pyIter v) (fun it s₂ => codeAny (model prog w) A (.forLoop (.Name (Str.ofString x) xp) it b [] (envOf name scope L a cd)) R s₂) E s := by
  have h1 : ∀ q ∈ O₀.ob, q.1 ∈ O₀.ad := fun q hq => (S.ob q hq).1
  have ap := fresh_apart S
  cases d with
  | list ds =>
    obtain ⟨l, its, rfl, hl, rs⟩ := list_of_rep r
    refine wpAny_pyIter_list hl ?_
    have S1 := S.lendIter X.b0 { cls := .type "list_iterator", data := .fields #[.ref l, .int 0 0] } rfl (fun _ _ q => by cases q) (gh := [(.ref l, .list ds)]) fun q hq => by rw [List.mem_singleton.mp hq]; exact r
    exact forName_ok X hE' hx hb (walk_list X.hh ap) h1 hR S1 B ⟨_, rfl, rfl, rfl⟩ (PostS.later (h' := _) (Nat.le_refl _) p)
  | tuple ds =>
    obtain ⟨l, its, rfl, hl, rs⟩ := tuple_of_rep r
    refine wpAny_pyIter_tuple hl ?_
    have S1 := S.lendIter X.b0 { cls := .type "tuple_iterator", data := .fields #[.ref l, .int 0 0] } rfl (fun _ _ q => by cases q) (gh := [(.ref l, .tuple ds)]) fun q hq => by rw [List.mem_singleton.mp hq]; exact r
    exact forName_ok X hE' hx hb (walk_tuple X.hh ap) h1 hR S1 B ⟨_, rfl, rfl, rfl⟩ (PostS.later (h' := _) (Nat.le_refl _) p)
  | str y =>
    obtain ⟨t, rfl, t1, t2, t3⟩ := r
    refine wpAny_pyIter_strU ?_
    have S1 := S.lendIter X.b0 { cls := .type (strIterType y), data := .fields #[.str y t, .int 0 0] } rfl (fun _ _ q => by cases q) (gh := []) fun q hq => nomatch hq
    refine forName_ok X hE' hx hb (walk_str (T := strIterType y) X.hh X.glo.pos t3 ?_ ap) h1 hR S1 B ⟨_, rfl, rfl, rfl⟩ (PostS.later (h' := _) (Nat.le_refl _) p)
    unfold strIterType
    split <;> simp
  | _ => exact p.elim

theorem forN_ok (X : CxE prog w base0 mg mb t0 n C A base hE name scope L a cd outer) (hE' : PassesOwn (model prog w) A (envOf name scope L a cd) E) {x : String} {xp pos : Pos} {q : QE} {it : Expr} {b : List Stmt} {f : PE → Out (Fl × PE)}
    (hx : scope.names.lookup (Str.ofString x) = some .local) (hb : BodyOK prog w base0 t0 A base hE name scope L a cd outer E f b) (h : okE scope q it = true)
    (S : St base0 base hE O₀ L scope.names t0 ρ s m O) (B : OwnB base ρ m)
    (p : PostX base0 base hE O₀ t0 name scope L a cd outer s (((pev C ρ q).bind piter).bind fun ds => pfor [x] f ds ρ) Q E) :
    wpAny (model prog w) A (exec (.For (.Name (Str.ofString x) xp) it b [] pos) (envOf name scope L a cd)) Q E s := by
  refine wpAny_For ?_ (folded_none (okE_not h).1)
  have p' : PostX base0 base hE O₀ t0 name scope L a cd outer s ((pev C ρ q).bind fun d => (piter d).bind fun ds => pfor [x] f ds ρ) Q E := by
    cases hq : pev C ρ q <;> rw [hq] at p <;> exact p
  refine pev_ok X h s _ S (PostS.bind S p' fun d v h' tk' _ g r p2 => ?_)
  exact iter_ok X hE' hx hb rfl (S.grow g) B r p2

theorem rngN_ok (X : CxE prog w base0 mg mb t0 n C A base hE name scope L a cd outer) (hE' : PassesOwn (model prog w) A (envOf name scope L a cd) E) {x : String} {xp fp cp pos : Pos} {q : QE} {e : Expr} {b : List Stmt} {f : PE → Out (Fl × PE)}
    (hx : scope.names.lookup (Str.ofString x) = some .local) (hg : scope.names.lookup (Str.ofString "range") = some .globalImplicit) (hb : BodyOK prog w base0 t0 A base hE name scope L a cd outer E f b) (h : okE scope q e = true)
    (S : St base0 base hE O₀ L scope.names t0 ρ s m O) (B : OwnB base ρ m)
    (p : PostX base0 base hE O₀ t0 name scope L a cd outer s (((pev C ρ q).bind prange).bind fun ds => pfor [x] f ds ρ) Q E) :
    wpAny (model prog w) A (exec (.For (.Name (Str.ofString x) xp) (.Call (.Name (Str.ofString "range") fp) [e] [] cp) b [] pos) (envOf name scope L a cd)) Q E s := by
  refine wpAny_For ?_ (folded_none rfl)
  have p' : PostX base0 base hE O₀ t0 name scope L a cd outer s ((pev C ρ q).bind fun d => (prange d).bind fun ds => pfor [x] f ds ρ) Q E := by
    cases hq : pev C ρ q <;> rw [hq] at p <;> exact p
  refine wpAny_Call_ofName (load_blt X S hg bltOf_range ?_)
  rw [starEach_plain _ (okE_not h).2.2.1, backTo_trees]
  refine PySem.callWith_type (any_trees _ _) (evalArgs_trees (Calls.spliced_cons (pev_ok X h s _ S (PostS.bind S p' fun d v h' tk' _ g r p2 => Calls.spliced_nil ?_))))
  cases d with
  | int k =>
    obtain ⟨t, rfl⟩ := r
    have p3 : PostX base0 base hE O₀ t0 name scope L a cd outer { s with heap := h', toks := tk' } ((if 0 ≤ k ∧ k ≤ 1000000 then Out.ok (rangeD k) else .bad).bind fun ds => pfor [x] f ds ρ) Q E := p2
    by_cases hk : 0 ≤ k ∧ k ≤ 1000000
    · rw [if_pos hk] at p3
      have S1 := S.grow g
      have g2 : Grow base { s with heap := h', toks := tk' } (h'.push { cls := .type "range", data := .fields #[.int 0 tk', .int k t, .int 1 (tk' + 1)] }) (tk' + 1 + 1) := ⟨.push _ _, staysIn_push S1.bs _, Nat.le_add_right _ 2⟩
      refine call_range_1 ?_
      have S2 := S1.grow g2
      have ap := fresh_apart S2
      refine wpAny_pyIter_range (IsRange.new ..) (small_one (by decide) (by decide) (by omega) (by omega)) ?_
      have e1 : Builtin.Range.rangeSize 0 k 1 = k := by rw [rangeSize_one]; split <;> omega
      rw [e1]
      have S3 := S2.lendIter X.b0 { cls := .type "range_iterator", data := .fields #[rawInt 0, rawInt k, rawInt 1] } rfl (fun _ _ q => by cases q) (gh := []) fun q hq => nomatch hq
      exact forName_ok X hE' hx hb (walk_range (k := k) X.hh hk.1 ap) (fun q hq => (S.ob q hq).1) rfl S3 B (by simp) (PostS.later (h' := _) (Nat.le_refl _) (PostS.later (h' := _) (Nat.le_add_right _ 2) p3))
    · rw [if_neg hk] at p3; exact p3.elim
  | _ => exact p2.elim
end
end Mine

open PySem PyProof.Rows
set_option maxRecDepth 10000
namespace Mine

section
variable {prog : Program} {w : World} {base0 : Heap} {mg mb : Str → Option Value} {t0 n : Nat} {C : PC} {A : Around} {base hE : Heap} {name : Str} {scope : Scope} {L a : Addr} {cd : Value} {outer : List Env}
  {O₀ : Lent} {ρ : PE} {m : Str → Option Value} {O : List Addr} {E : Value → Shared → Prop} {s : Shared} {Q : Flow → Shared → Prop} {names : List (Str × NameKind)}

/-- a name is stored: a datum; the heap has grown meanwhile -/
theorem St.storeTo (S : St base0 base hE O₀ L names t0 ρ s m O) {x : Str} {d : PyData} {v : Value} {h' : Heap} {tk' : Nat} (hx : names.lookup x = some .local) (hn : h'.Ns L (fun y => if y = x then some v else m y))
    (ne : ∀ b o, b ≠ L → s.heap.get? b = some o → h'.get? b = some o) (ht : s.toks ≤ tk') (r : Rep h' O tk' d v) :
    St base0 base hE O₀ L names t0 (upd ρ x (.dat d)) { s with heap := h', toks := tk' } (fun y => if y = x then some v else m y) O := by
  have c : Carry s.heap O h' O := fun b o hb e => ⟨hb, o.slots, ne b o (fun q => hb (q ▸ S.lo)) e⟩
  refine ⟨hn, ?_, ?_, S.lo, S.out, fun q hq => (S.gh q hq).carry c ht, fun q hq => (let ⟨k1, k2, k3, k4⟩ := S.ob q hq; ⟨k1, k2, ne _ _ k2 k3, k4⟩), ?_, S.lb, S.le, ?_, ?_, ?_, ?_, Nat.le_trans S.tk ht⟩
  · intro b o e
    refine ne b o (fun q => ?_) (S.bs b o e)
    rw [q, S.lb] at e; cases e
  · intro b o e
    exact S.ext.on (fun b o o' e e' => ne b o' (fun q => by rw [q, S.le] at e; cases e) e') b o e
  · intro b hb
    refine ⟨?_, (S.al b hb).2⟩
    by_cases hL : b = L
    · obtain ⟨oL, es, ep, k1, _⟩ := hn
      rw [hL, k1]; rfl
    · cases hq : s.heap.get? b with
      | none => have := (S.al b hb).1; rw [hq] at this; cases this
      | some o => rw [ne b o hL hq]; rfl
  · intro y d' e
    unfold upd at e
    by_cases hy : y = x
    · rw [if_pos hy] at e
      cases e
      exact ⟨v, by simp [hy], r⟩
    · rw [if_neg hy] at e
      obtain ⟨v', k1, k2⟩ := S.dat y d' e
      exact ⟨v', by simp [hy, k1], k2.carry c ht⟩
  · intro y ds e
    unfold upd at e
    by_cases hy : y = x
    · rw [if_pos hy] at e; cases e
    · rw [if_neg hy] at e
      obtain ⟨b, k1, k2, k3, k4, k5⟩ := S.own y ds e
      exact ⟨b, by simp [hy, k1], k2, k3, k4, k5.carry c ht fun o ho => ⟨o.slots, ne b o k3 ho⟩⟩
  · intro y z ds es b e1 e2 m1 m2
    unfold upd at e1 e2
    by_cases hy : y = x
    · rw [if_pos hy] at e1; cases e1
    · by_cases hz : z = x
      · rw [if_pos hz] at e2; cases e2
      · rw [if_neg hy] at e1 m1
        rw [if_neg hz] at e2 m2
        exact S.dis y z ds es b e1 e2 m1 m2
  · intro y v' e
    unfold upd at e
    by_cases hy : y = x
    · rw [hy]; exact hx
    · rw [if_neg hy] at e; exact S.loc y v' e

theorem Reps.paired {h₂ h₃ : Heap} {O' : List Addr} {tk₂ tk₃ : Nat} {F : Value → Value → Prop} : ∀ {ds : List PyData} {vs ys : List Value}, Reps h₂ O' tk₂ ds vs → Paired F vs ys →
    (∀ d v y, d ∈ ds → Rep h₂ O' tk₂ d v → F v y → Rep h₃ O' tk₃ d y) → Reps h₃ O' tk₃ ds ys
  | [], _, _, r, q, _ => by
    obtain rfl : _ = [] := r
    cases q
    rfl
  | d :: ds, _, _, r, q, K => by
    obtain ⟨v, w, h1, h2, h3⟩ := r
    subst h1
    cases q with
    | cons q1 q2 => exact ⟨_, _, rfl, K d v _ (List.mem_cons_self ..) h2 q1, Reps.paired h3 q2 fun d' v' y' hd => K d' v' y' (List.mem_cons_of_mem _ hd)⟩

theorem copies_ok (X : CxE prog w base0 mg mb t0 n C A base hE name scope L a cd outer) (S : St base0 base hE O₀ L scope.names t0 ρ s m O) (B : OwnB base ρ m) {x y : Str} {q : QE} {it : Expr} {sc : Scope} {px fp yp yp' cp lp pos : Pos}
    (hx : scope.names.lookup x = some .local) (hq : okE scope q it = true) (hyl : y ≠ Str.ofString "list") (hyd : y ≠ Str.ofString "__debug__") (hxy : x ≠ y) (hx0 : x ≠ Str.ofString ".0")
    (hpl : px.line = lp.line) (hnm : sc.names = [(Str.ofString ".0", .local), (y, .local), (Str.ofString "list", .globalImplicit)]) (hkd : sc.kind = .function)
    (p : PostX base0 base hE O₀ t0 name scope L a cd outer s ((pev C ρ q).bind fun d => pcop ρ x d) Q E) :
    wpAny (model prog w) A (exec (.Assign [.Name x px] (.ListComp (.Call (.Name (Str.ofString "list") fp) [.Name y yp] [] cp) [⟨.Name y yp', it, [], 0⟩] sc lp) pos) (envOf name scope L a cd)) Q E s := by
  have l0 : (Str.ofString "list" == Str.ofString ".0") = false := by rw [beq_eq_false_iff_ne, ne_eq, ofS_inj]; decide
  have ly : (Str.ofString "list" == y) = false := by rw [beq_eq_false_iff_ne]; exact Ne.symm hyl
  have hcell : ∀ z ∈ sc.names, z.2 ≠ .cell := by rw [hnm]; intro z hz; simp only [List.mem_cons, List.not_mem_nil, or_false] at hz; rcases hz with rfl | rfl | rfl <;> simp
  have hnames : ∀ z ∈ sc.names, z.2 = .local → sc.names.lookup z.1 = some .local := by
    rw [hnm]; intro z hz hl
    simp only [List.mem_cons, List.not_mem_nil, or_false] at hz
    rcases hz with rfl | rfl | rfl
    · simp
    · simp only [List.lookup_cons, beq_self_eq_true]; split <;> simp_all
    · cases hl
  have hlk : sc.names.lookup y = some .local := hnames (y, .local) (by rw [hnm]; simp) rfl
  have hclos : closureFor sc (envOf name scope L a cd) = pure [] := by
    unfold closureFor
    rw [hnm]
    rfl
  have hsw : swapsWith (.ListComp (.Call (.Name (Str.ofString "list") fp) [.Name y yp] [] cp) [⟨.Name y yp', it, [], 0⟩] sc lp) (some (.Name x px)) pos.line (envOf name scope L a cd) = pure true := by
    unfold swapsWith
    have e1 : (envOf name scope L a cd).blockKind = .function := by
      unfold Env.blockKind
      simp only [show (envOf name scope L a cd).scope.kind = .function from X.kind, ScopeKind.isAnnotationScope, Bool.false_and, Bool.false_eq_true, if_false]
    have e2 : (envOf name scope L a cd).kindOf x = some .local := hx
    have e3 : (px.line == lp.line) = true := by rw [beq_iff_eq]; exact hpl
    have e4 : (Str.ofString ".0" == x) = false := by rw [beq_eq_false_iff_ne]; exact Ne.symm hx0
    have e5 : (y == x) = false := by rw [beq_eq_false_iff_ne]; exact Ne.symm hxy
    simp only [e1, e2, hnm, List.any_cons, List.any_nil, e4, e5]
    show (pure (_ && _ && (px.line == lp.line) && _) : Sem Bool) = _
    rw [e3]
    have e6 : (NameKind.globalImplicit == NameKind.local) = false := rfl
    have e7 : (NameKind.globalImplicit == NameKind.cell) = false := rfl
    simp [e6, e7]
  have hrl : ∀ cenv : Env, (relabel sc cenv).names = sc.names := by
    intro cenv
    unfold relabel
    rw [hnm]
    rfl
  have hgl : sc.names.lookup (Str.ofString "list") = some .globalImplicit := by
    rw [hnm]; simp only [List.lookup_cons, l0, ly, beq_self_eq_true]
  rw [exec_Assign_Name_used _ _ _ _ hsw]
  refine wpAny_bind (wpAny_standAt (wpAny_bind ?_))
  show wpAny _ A (do let _ ← comprehension (.ListComp (.Call (.Name (Str.ofString "list") fp) [.Name y yp] [] cp) [⟨.Name y yp', it, [], 0⟩] sc lp) sc (envOf name scope L a cd) _ (newList []) false (eval it (envOf name scope L a cd)) (some (assign (.Name x px) (envOf name scope L a cd)))) _ _ s
  refine wpAny_bind (wpAny_mono (wpAny_comprehension_free (use := some (assign (.Name x px) (envOf name scope L a cd))) (Q := fun _ s' => Q .next s') rfl (folded_none (okE_not hq).1) hclos hkd hnames ?_) (fun _ s' hq => wpAny_pure (wpAny_pure hq)) fun _ _ e => e)
  refine pev_ok X hq s _ S (PostS.bind S p fun d v h1 tk1 _ g r p' => ?_)
  have S1 := S.grow g
  cases d with
  | list ds =>
    have p' : PostX base0 base hE O₀ t0 name scope L a cd outer { s with heap := h1, toks := tk1 } (if ds.length ≤ LIM ∧ ds.all isShortL = true then .ok (.next, upd ρ x (.dat (.list ds))) else .bad) Q E := p'
    split at p'
    · rename_i hcond
      obtain ⟨hlen, hall⟩ := hcond
      obtain ⟨l, its, rfl, hl, rs⟩ := list_of_rep r
      have hn := rs.length
      simp only [Array.length_toList] at hn
      refine wpAny_pyIter_list hl ?_
      have fresh : h1.get? h1.objs.size = none := Heap.get?_none_of_le (Nat.le_refl _)
      generalize hh2 : h1.push { cls := .type "list_iterator", data := .fields #[.ref l, .int 0 0] } = h2
      have old2 : ∀ b o, h1.get? b = some o → h2.get? b = some o := fun b o e => hh2 ▸ Heap.get?_push_of_some _ e
      have hne : l ≠ h1.objs.size := by obtain ⟨o, ho, _⟩ := hl; exact Nat.ne_of_lt (Heap.lt_size ho)
      have hl2 : h2.IsList l its := hl.at fun o e => old2 _ _ e
      have hI2 : h2.IsListIter h1.objs.size l 0 := ⟨_, hh2 ▸ Heap.get?_push_size _ rfl, rfl, rfl⟩
      have sz2 : h2.objs.size = h1.objs.size + 1 := by rw [← hh2, Heap.size_push]
      have S2 : St base0 base hE O₀ L scope.names t0 ρ { s with heap := h2, toks := tk1 } m O := S1.grow ⟨.of_keeps old2, fun b o e => old2 b o (S1.bs b o e), Nat.le_refl _⟩
      have rs2 : Reps h2 O tk1 ds its.toList := rs.carry (.ext (.of_keeps old2) O) (Nat.le_refl _)
      refine wpAny_with_toks (n := tk1) (Nat.le_refl _) (wpAny_mono (E := E) ?_ (fun acc s₃ h ht => wpAny_with_toks ht (wpAny_mono (E := E) h (fun cenv s₄ h4 ht4 => codeAny_with_toks ht4 h4) (fun _ _ e _ => e))) (fun _ _ e _ => e))
      refine comp_block_walkCO (RR := fun acc C r s' => tk1 ≤ s'.toks → compPost (model prog w) A E (some (assign (.Name x px) (envOf name scope L a cd))) (fun _ s' => Q .next s') acc C r s')
        (Walks.list X.hh h1.objs.size l hne its) (by rw [hn, sizeLine_is]; exact hlen) (fun _ => true) (fun v is => ∃ b, v = .ref b ∧ h2.IsList b is) ?_ hcell hkd hlk ⟨hI2, hl2⟩ ?_ ?_ ?_
      · rintro i h ⟨⟨o, ho, _⟩, _⟩ b hb
        rw [List.mem_singleton.mp hb]
        exact ⟨o, ho⟩
      · intro b hb
        show b < h2.objs.size
        rw [sz2]
        simp only [List.mem_cons, List.not_mem_nil, or_false] at hb
        rcases hb with rfl | rfl
        · exact Nat.lt_succ_self _
        · obtain ⟨o, ho, _⟩ := hl; exact Nat.lt_succ_of_lt (Heap.lt_size ho)
      · refine ⟨fun Cc i v s₃ m₃ E' _ _ _ _ _ _ => wpAny_pure ⟨rfl, s₃.heap, s₃.toks, rfl, fun _ _ e => e⟩, ?_⟩
        intro Cc i v s₃ m₃ E' hCc hP _ hN hv hk ht
        have hvm : its.toList[i]? = some v := by simpa using hP
        have hi : i < ds.length := by
          have := (Array.getElem?_eq_some_iff.mp hP).1
          omega
        obtain ⟨v', hv', rv⟩ := rs2.get (List.getElem?_eq_getElem hi)
        rw [hvm] at hv'
        cases hv'
        have hmem : ds[i] ∈ ds := List.getElem_mem hi
        have hd := List.all_eq_true.mp hall _ hmem
        generalize hdi : ds[i] = di at rv hd
        cases di with
        | list es =>
          have hd := of_decide_eq_true hd
          obtain ⟨b, bs, rfl, hb, rbs⟩ := list_of_rep rv
          have hbn := rbs.length
          simp only [Array.length_toList] at hbn
          have hbI : b ∉ [h1.objs.size] := by
            intro hm
            rw [List.mem_singleton.mp hm] at hb
            obtain ⟨o, ho, hc, _⟩ := hb
            obtain ⟨o', ho', hc', _⟩ := hI2
            rw [ho] at ho'; cases ho'
            rw [hc] at hc'; simp at hc'
          have bk : ∀ z o, base0.get? z = some o → s₃.heap.get? z = some o := fun z o e => hk z o (by
            intro hm
            rw [List.mem_singleton.mp hm] at e
            have := S1.bs _ _ (X.b0 _ _ e)
            rw [show ({ s with heap := h1, toks := tk1 } : Shared).heap = h1 from rfl, fresh] at this; cases this) (S2.bs _ _ (X.b0 _ _ e))
          obtain ⟨e1, e2⟩ := X.glo.blt _ _ bltOf_list
          have kl : (compEnvC sc [] Cc (envOf name scope L a cd)).kindOf (Str.ofString "list") = some .globalImplicit := by
            show (relabel sc (envOf name scope L a cd)).names.lookup _ = _
            rw [hrl]; exact hgl
          have ky : (compEnvC sc [] Cc (envOf name scope L a cd)).kindOf y = some .local := by
            show (relabel sc (envOf name scope L a cd)).names.lookup _ = _
            rw [hrl]; exact hlk
          have hk3 : (compEnvC sc [] Cc (envOf name scope L a cd)).scope.kind = .function := hkd
          refine wpAny_Call_ofName (Calls.Name_function_global hk3 kl (Calls.loadGlobal_builtin (env := compEnvC sc [] Cc (envOf name scope L a cd)) (X.glo.g.keeps bk) e1 (X.glo.b.keeps bk) e2 ?_) ?_)
          · rw [starEach_plain _ (show noStar [Expr.Name y yp] = true from rfl), backTo_trees]
            refine PySem.callWith_type (any_trees _ _) (evalArgs_trees (Calls.spliced_cons (wpAny_Name (wpAny_loadName_local hk3 ky hN hv (Calls.spliced_nil ?_)) ?_)))
            · obtain ⟨o, ho, hc, nn, hd'⟩ := hb
              refine call_list_seq b (.inl rfl) (hk b o hbI ho) hc hd' (fun h' c' hk' hD => ?_) (by rw [hbn, sizeLine_is]; exact hd)
              refine ⟨⟨_, bs, rfl, Heap.get?_none_of_le (Nat.le_refl _), ⟨_, hD, rfl, c', rfl⟩, b, rfl, o, ho, hc, nn, hd'⟩, h', s₃.toks, rfl, hk'⟩
            · rw [beq_eq_false_iff_ne]; exact hyd
          · rw [beq_eq_false_iff_ne]
            show Str.ofString "list" ≠ Str.ofString "__debug__"
            rw [ne_eq, ofS_inj]; decide
        | _ => cases hd
      · intro D Cc h' tk m' ys vs hD hCc hDC hnC hlD hplD hvl hP hPr _ hk htk0
        have htk1 : tk1 ≤ tk + 1 := Nat.le_succ_of_le htk0
        have fr : ∀ b o, h1.get? b = some o → h'.get? b = some o := fun b o e => hk b o (fun hm => by rw [List.mem_singleton.mp hm, fresh] at e; cases e) (old2 b o e)
        have none1 : ∀ b, h2.get? b = none → h1.get? b = none := fun b hb => by
          cases hq : h1.get? b with
          | none => rfl
          | some o => rw [old2 b o hq] at hb; cases hb
        have al1 : ∀ b, h2.get? b = none → b ∉ O := fun b hb hm => by
          have := (S1.al b hm).1
          rw [show ({ s with heap := h1, toks := tk1 } : Shared).heap = h1 from rfl, none1 b hb] at this; cases this
        have hLO : L ∈ O := S1.lo
        have hLC : L ≠ Cc := fun q => al1 Cc hCc (q ▸ hLO)
        have hLD : L ≠ D := fun q => al1 D hD (q ▸ hLO)
        have evs : vs = its.toList := by
          apply List.ext_getElem?
          intro j
          by_cases hj : j < vs.length
          · have := hP j _ (List.getElem?_eq_getElem hj)
            rw [List.getElem?_eq_getElem hj]
            simpa using this.symm
          · have hj2 : its.size ≤ j := by omega
            rw [List.getElem?_eq_none (by omega), List.getElem?_eq_none (by simpa using hj2)]
        show wpAny _ A (assign (.Name x px) (envOf name scope L a cd) (.ref D)) _ _ _
        refine wpAny_assign_Name (wpAny_storeName_local (env := envOf name scope L a cd) hx (S1.ns.keeps fr) (fun h₂ hn₂ hs₂ => ?_) (notClass X))
        refine ⟨m', hnC.sameBut hs₂ (Ne.symm hLC), fun h₃ hs₃ => ?_⟩
        refine p' .next h₃ (tk + 1) _ O htk1 (S1.storeTo hx (hn₂.sameBut hs₃ hLC) (fun b o hb e => ?_) htk1 ?_) (B.store x _ _) trivial
        · have hbC : b ≠ Cc := fun q => by rw [q, none1 Cc hCc] at e; cases e
          exact (hs₃.2 b hbC).trans ((hs₂.2 b hb).trans (fr b o e))
        · obtain ⟨oD, k1, k2, nn, k3⟩ := hlD
          have k1' : h₃.get? D = some oD := (hs₃.2 D hDC).trans ((hs₂.2 D (Ne.symm hLD)).trans k1)
          refine ⟨D, oD, ys, nn, rfl, al1 D hD, k1', k2, rfl, k3, ?_⟩
          have hPr' : Paired (LstAt h2 Cc D [h1.objs.size] (fun v is => ∃ b, v = .ref b ∧ h2.IsList b is) h') its.toList ys.toList := by
            rw [← evs]; rwa [show vs.filter (fun _ => true) = vs from List.filter_eq_self.mpr fun _ _ => rfl] at hPr
          refine rs.paired hPr' fun d v y' hd rv hf => ?_
          obtain ⟨T, is, rfl, q1, q2, q3, q4, q5, b, rfl, q6⟩ := hf
          have hd' := List.all_eq_true.mp hall _ hd
          cases d with
          | list es =>
            obtain ⟨b', bs, eb, hb, rbs⟩ := list_of_rep rv
            cases eb
            have ebs : bs = is := by
              obtain ⟨o1, w1, _, n1, w2⟩ := hb
              obtain ⟨o2, w3, _, n2, w4⟩ := q6
              rw [old2 _ _ w1] at w3; cases w3
              rw [w2] at w4; cases w4; rfl
            subst ebs
            obtain ⟨oT, w1, w2, n1, w3⟩ := q5
            have hTL : T ≠ L := fun q => al1 T q1 (q ▸ hLO)
            refine ⟨T, oT, bs, n1, rfl, al1 T q1, (hs₃.2 T q2).trans ((hs₂.2 T hTL).trans w1), w2, rfl, w3, ?_⟩
            exact rbs.carry (fun z o hz e => ⟨hz, o.slots, (hs₃.2 z (fun q => by rw [q, none1 Cc hCc] at e; cases e)).trans ((hs₂.2 z (fun q => hz (q ▸ hLO))).trans (fr z o e))⟩) htk1
          | _ => cases hd'
    · exact p'.elim
  | _ => exact p'.elim
end
end Mine

open PySem PyProof.Rows
set_option maxRecDepth 10000
namespace Mine

section
variable {prog : Program} {w : World} {A : Around} {E : Value → Shared → Prop} {s : Shared}

/-- the next of a tuple's iterator, as zip asks for it -/
theorem nextOf_tup {it l : Addr} {i : Nat} {items : Array Value} {x : Value} {Q : Value → Shared → Prop} (hit : s.heap.IsTupleIter it l i) (hl : s.heap.IsTuple l items) (hx : items[i]? = some x)
    (hQ : ∀ h', h'.IsTupleIter it l (i + 1) → Heap.SameBut it s.heap h' → Q x { s with heap := h' }) : wpAny (model prog w) A (Builtin.SmallTypes.nextOf (.ref it)) Q E s := by
  obtain ⟨o, ho, hc, hd⟩ := id hit
  obtain ⟨ol, hol, _, nl, hdl⟩ := hl
  unfold Builtin.SmallTypes.nextOf
  refine wpAny_bind (wpAny_callSpecial?_slot (name := Str.ofString "__next__") hit.typeIs F.slot_tuple_iterator_next
    (wpAny_call_entry F.slot_tuple_iterator_next hit.typeIs F.entry_tuple_iterator_next ?_ (F.args_tuple_iterator_next_1 _)))
  show wpAny _ _ (field (.ref it) 0 >>= _) _ _ s
  refine wpAny_bind (wpAny_field ho hd (x := .ref l) rfl ?_)
  show wpAny _ _ (if (Value.ref l == Value.none) = true then _ else _) _ _ s
  rw [if_neg (show ¬ ((Value.ref l == Value.none) = true) from Bool.false_ne_true)]
  show wpAny _ _ (field (.ref it) 1 >>= _) _ _ s
  refine wpAny_bind (wpAny_field ho hd (x := .int i 0) rfl ?_)
  show wpAny _ _ (seqItems? (.ref l) >>= _) _ _ s
  refine wpAny_bind (wpAny_seqItems hol hdl ?_)
  simp only [Int.toNat_natCast, hx]
  refine wpAny_bind (wpAny_setField ho hd (by simp) (wpAny_pure ⟨x, rfl, wpAny_pure (hQ _ ?_ (Heap.SameBut.update ..))⟩))
  exact ⟨_, Heap.get?_update_self _ ho (Obj.isFreed_of_fields (Obj.data_mapFields hd _)), (Obj.cls_mapFields ..).trans hc, by
    rw [Obj.data_mapFields hd]; simp [rawInt]⟩

/-- a turn of zip: a list and a tuple, both have an item; the pair is then let go -/
theorem zipLT_item {z TI TO i1 i2 l1 l2 : Addr} {k : Nat} {xs ys : Array Value} {x y a b : Value} {Q : Value → Shared → Prop} (D : ZipApart z TI TO i1 i2 l1 l2)
    (hz : IsZip s.heap z TI TO .none) (hTI : IsPair s.heap TI (.ref i1) (.ref i2)) (hTO : IsPair s.heap TO a b)
    (h1 : s.heap.IsListIter i1 l1 k) (h2 : s.heap.IsTupleIter i2 l2 k) (hl1 : s.heap.IsList l1 xs) (hl2 : s.heap.IsTuple l2 ys) (hx : xs[k]? = some x) (hy : ys[k]? = some y)
    (hQ : ∀ h' (T : Addr), IsZip h' z TI TO (rawInt T) → IsPair h' TO x y → h'.IsListIter i1 l1 (k + 1) → h'.IsTupleIter i2 l2 (k + 1) → IsPair h' T x y → T ≠ z →
      (∀ c o, c ≠ z → c ≠ TO → c ≠ i1 → c ≠ i2 → s.heap.get? c = some o → h'.get? c = some o) → Q (.ref T) { s with heap := h' }) :
    wpAny (model prog w) A (Builtin.«zip.__next__» ⟨[.ref z], []⟩) (fun fin s' => ∃ v, fin = .done (.ret v) ∧ Q v s') E s := by
  show wpAny _ _ (field (.ref z) 2 >>= _) _ _ _
  refine wpAny_bind (wpAny_field hz rfl (x := .bool false) rfl ?_)
  show wpAny _ _ (field (.ref z) 3 >>= _) _ _ _
  refine wpAny_bind (wpAny_field hz rfl (x := .ref TI) rfl ?_)
  refine wpAny_bind (wpAny_seqItems hTI rfl ?_)
  show wpAny _ _ (Builtin.SmallTypes.ownedTupleIsFree (.ref z) >>= _) _ _ _
  refine wpAny_bind ?_
  unfold Builtin.SmallTypes.ownedTupleIsFree
  refine wpAny_bind (wpAny_field hz rfl (x := .none) rfl (wpAny_pure ?_))
  simp only [if_true]
  refine wpAny_bind (wpAny_rule ?_)
  refine wpAny_bind (wpAny_field hz rfl (x := .ref TO) rfl ?_)
  refine wpAny_bind (wpAny_setField_rec hz (by simp) fun h₁ hz₁ hs₁ => ?_)
  replace hz₁ : IsZip h₁ z TI TO .ellipsis := hz₁
  refine wpAny_bind ?_
  simp only [List.zipIdx_cons, List.zipIdx_nil, List.forIn_cons, List.forIn_nil]
  refine wpAny_bind (wpAny_bind (wpAny_onRaise ?_))
  show wpAny _ _ (Builtin.SmallTypes.nextOf (.ref i1) >>= _) _ _ _
  refine wpAny_bind (wpAny_nextOf_list_item (h1.extBut hs₁.extBut D.i1z) (hl1.extBut hs₁.extBut D.l1z) hx fun h₂ h1₂ hs₂ => wpAny_pure ?_)
  have hTO₂ : IsPair h₂ TO a b := hs₂.extBut _ _ D.TOi1 (hs₁.extBut _ _ D.TOz hTO)
  refine wpAny_bind (wpAny_seqItems hTO₂ rfl ?_)
  refine wpAny_bind (wpAny_updateSeq_pair hTO₂ fun h₃ hTO₃ hs₃ => ?_)
  replace hTO₃ : IsPair h₃ TO x b := hTO₃
  refine wpAny_bind (wpAny_letGo (wpAny_pure ?_))
  refine wpAny_bind (wpAny_bind (wpAny_onRaise ?_))
  show wpAny _ _ (Builtin.SmallTypes.nextOf (.ref i2) >>= _) _ _ _
  refine wpAny_bind (nextOf_tup (((h2.extBut hs₁.extBut D.i2z).extBut hs₂.extBut D.i12.symm).extBut hs₃.extBut D.TOi2.symm)
    (((hl2.extBut hs₁.extBut D.l2z).extBut hs₂.extBut D.l2i1).extBut hs₃.extBut D.l2TO) hy fun h₄ h2₄ hs₄ => wpAny_pure ?_)
  have hTO₄ : IsPair h₄ TO x b := hs₄.extBut _ _ D.TOi2 hTO₃
  refine wpAny_bind (wpAny_seqItems hTO₄ rfl ?_)
  refine wpAny_bind (wpAny_updateSeq_pair hTO₄ fun h₅ hTO₅ hs₅ => ?_)
  replace hTO₅ : IsPair h₅ TO x y := hTO₅
  refine wpAny_bind (wpAny_letGo (wpAny_pure (wpAny_pure ?_)))
  refine wpAny_bind (wpAny_seqItems hTO₅ rfl ?_)
  refine wpAny_bind (wpAny_newTuple ?_)
  have hz₅ : IsZip h₅ z TI TO .ellipsis := hs₅.extBut _ _ D.TOz.symm (hs₄.extBut _ _ D.i2z.symm (hs₃.extBut _ _ D.TOz.symm (hs₂.extBut _ _ D.i1z.symm hz₁)))
  have hk₅ : ∀ c o, c ≠ z → c ≠ TO → c ≠ i1 → c ≠ i2 → s.heap.get? c = some o → h₅.get? c = some o := fun c o c1 c2 c3 c4 e =>
    hs₅.extBut _ _ c2 (hs₄.extBut _ _ c4 (hs₃.extBut _ _ c2 (hs₂.extBut _ _ c3 (hs₁.extBut _ _ c1 e))))
  have h1₅ : h₅.IsListIter i1 l1 (k + 1) := ((h1₂.extBut hs₃.extBut D.TOi1.symm).extBut hs₄.extBut D.i12).extBut hs₅.extBut D.TOi1.symm
  have h2₅ : h₅.IsTupleIter i2 l2 (k + 1) := h2₄.extBut hs₅.extBut D.TOi2.symm
  have hzlt : z < h₅.objs.size := Heap.lt_size hz₅
  show wpAny _ _ (Builtin.SmallTypes.ownedTupleHandOut (.ref z) (.ref h₅.objs.size) >>= _) _ _ _
  refine wpAny_bind ?_
  unfold Builtin.SmallTypes.ownedTupleHandOut
  have hz₆ : IsZip (h₅.push { cls := .type "tuple", data := .seq #[x, y] }) z TI TO .ellipsis := Heap.get?_push_of_some _ hz₅
  refine wpAny_bind (wpAny_setField_rec hz₆ (by simp) fun h₇ hz₇ hs₇ => ?_)
  replace hz₇ : IsZip h₇ z TI TO (rawInt h₅.objs.size) := hz₇
  refine wpAny_setField_rec hz₇ (by simp) fun h₈ hz₈ hs₈ => ?_
  replace hz₈ : IsZip h₈ z TI TO (rawInt h₅.objs.size) := hz₈
  have up : ∀ c o, c ≠ z → h₅.get? c = some o → h₈.get? c = some o := fun c o c1 e => hs₈.extBut _ _ c1 (hs₇.extBut _ _ c1 (Heap.get?_push_of_some _ e))
  have hT₈ : IsPair h₈ h₅.objs.size x y := hs₈.extBut _ _ (Nat.ne_of_gt hzlt) (hs₇.extBut _ _ (Nat.ne_of_gt hzlt) (Heap.get?_push_size _ rfl))
  refine wpAny_pure ⟨_, rfl, ?_⟩
  have upl : h₈.IsListIter i1 l1 (k + 1) := by obtain ⟨o, e, r⟩ := h1₅; exact ⟨o, up _ o D.i1z e, r⟩
  have upt : h₈.IsTupleIter i2 l2 (k + 1) := by obtain ⟨o, e, r⟩ := h2₅; exact ⟨o, up _ o D.i2z e, r⟩
  exact hQ h₈ h₅.objs.size hz₈ (up _ _ D.TOz hTO₅) upl upt hT₈ (Nat.ne_of_gt hzlt) fun c o c1 c2 c3 c4 e => up c o c1 (hk₅ c o c1 c2 c3 c4 e)

theorem zipLT_end {z TI TO i1 i2 l1 : Addr} {k : Nat} {xs : Array Value} {Q : Fin → Shared → Prop} (hh : A.handled = none) (i1z : i1 ≠ z) (l1z : l1 ≠ z)
    (hz : IsZip s.heap z TI TO .none) (hTI : IsPair s.heap TI (.ref i1) (.ref i2)) (h1 : s.heap.IsListIter i1 l1 k) (hl1 : s.heap.IsList l1 xs) (hx : xs[k]? = none)
    (hE : ∀ h' e, (∀ c o, c ≠ z → c ≠ i1 → s.heap.get? c = some o → h'.get? c = some o) → (∃ o, h'.get? e = some o ∧ o.cls = .type "StopIteration") → E (.ref e) { s with heap := h' }) :
    wpAny (model prog w) A (Builtin.«zip.__next__» ⟨[.ref z], []⟩) Q E s := by
  show wpAny _ _ (field (.ref z) 2 >>= _) _ _ _
  refine wpAny_bind (wpAny_field hz rfl (x := .bool false) rfl ?_)
  show wpAny _ _ (field (.ref z) 3 >>= _) _ _ _
  refine wpAny_bind (wpAny_field hz rfl (x := .ref TI) rfl ?_)
  refine wpAny_bind (wpAny_seqItems hTI rfl ?_)
  show wpAny _ _ (Builtin.SmallTypes.ownedTupleIsFree (.ref z) >>= _) _ _ _
  refine wpAny_bind ?_
  unfold Builtin.SmallTypes.ownedTupleIsFree
  refine wpAny_bind (wpAny_field hz rfl (x := .none) rfl (wpAny_pure ?_))
  simp only [if_true]
  refine wpAny_bind (wpAny_rule ?_)
  refine wpAny_bind (wpAny_field hz rfl (x := .ref TO) rfl ?_)
  refine wpAny_bind (wpAny_setField_rec hz (by simp) fun h₁ hz₁ hs₁ => ?_)
  replace hz₁ : IsZip h₁ z TI TO .ellipsis := hz₁
  refine wpAny_bind ?_
  simp only [List.zipIdx_cons, List.zipIdx_nil, List.forIn_cons, List.forIn_nil]
  refine wpAny_bind (wpAny_bind (wpAny_onRaise ?_))
  show wpAny _ _ (Builtin.SmallTypes.nextOf (.ref i1) >>= _) _ _ _
  refine wpAny_bind (wpAny_nextOf_list_end hh (h1.extBut hs₁.extBut i1z) (hl1.extBut hs₁.extBut l1z) hx fun h₂ e hs₂ he => ?_)
  obtain ⟨oe, hoe, hce⟩ := he
  have hz₂ : IsZip h₂ z TI TO .ellipsis := hs₂ _ _ i1z.symm hz₁
  have hez : e ≠ z := fun x => by subst x; rw [hz₂] at hoe; cases hoe; simp at hce
  refine wpAny_setField_rec hz₂ (by simp) fun h₃ _ hs₃ => hE h₃ e (fun c o c1 c3 x => hs₃.extBut _ _ c1 (hs₂ _ _ c3 (hs₁.extBut _ _ c1 x))) ⟨oe, hs₃.extBut _ _ hez hoe, hce⟩

theorem nextLT_item {z TI TO i1 i2 l1 l2 : Addr} {k : Nat} {xs ys : Array Value} {x y a b : Value} {Q : Option Value → Shared → Prop} (D : ZipApart z TI TO i1 i2 l1 l2)
    (hz : IsZip s.heap z TI TO .none) (hTI : IsPair s.heap TI (.ref i1) (.ref i2)) (hTO : IsPair s.heap TO a b)
    (h1 : s.heap.IsListIter i1 l1 k) (h2 : s.heap.IsTupleIter i2 l2 k) (hl1 : s.heap.IsList l1 xs) (hl2 : s.heap.IsTuple l2 ys) (hx : xs[k]? = some x) (hy : ys[k]? = some y)
    (hQ : ∀ h' (T : Addr), IsZip h' z TI TO (rawInt T) → IsPair h' TO x y → h'.IsListIter i1 l1 (k + 1) → h'.IsTupleIter i2 l2 (k + 1) → IsPair h' T x y → T ≠ z →
      (∀ c o, c ≠ z → c ≠ TO → c ≠ i1 → c ≠ i2 → s.heap.get? c = some o → h'.get? c = some o) → Q (some (.ref T)) { s with heap := h' }) :
    wpAny (model prog w) A (pyNext (.ref z)) Q E s := by
  have hT : s.TypeIs (.ref z) "zip" := ⟨_, hz, rfl⟩
  unfold pyNext
  exact wpAny_bind (wpAny_attempt (wpAny_callSpecial?_slot (name := Str.ofString "__next__") hT F.slot_zip_next
    (wpAny_call_entry F.slot_zip_next hT F.entry_zip_next
      (zipLT_item D hz hTI hTO h1 h2 hl1 hl2 hx hy fun h' T a1 a2 a3 a4 a5 a6 a7 => wpAny_pure (hQ h' T a1 a2 a3 a4 a5 a6 a7)) (F.args_zip_next_1 _))))

theorem nextLT_end {z TI TO i1 i2 l1 : Addr} {k : Nat} {xs : Array Value} {Q : Option Value → Shared → Prop} (hh : A.handled = none) (i1z : i1 ≠ z) (l1z : l1 ≠ z)
    (hz : IsZip s.heap z TI TO .none) (hTI : IsPair s.heap TI (.ref i1) (.ref i2)) (h1 : s.heap.IsListIter i1 l1 k) (hl1 : s.heap.IsList l1 xs) (hx : xs[k]? = none)
    (hQ : ∀ h', (∀ c o, c ≠ z → c ≠ i1 → s.heap.get? c = some o → h'.get? c = some o) → Q none { s with heap := h' }) : wpAny (model prog w) A (pyNext (.ref z)) Q E s := by
  have hT : s.TypeIs (.ref z) "zip" := ⟨_, hz, rfl⟩
  unfold pyNext
  refine wpAny_bind (wpAny_attempt (wpAny_callSpecial?_slot (name := Str.ofString "__next__") hT F.slot_zip_next
    (wpAny_call_entry F.slot_zip_next hT F.entry_zip_next (zipLT_end hh i1z l1z hz hTI h1 hl1 hx fun h' e hk he => ?_) (F.args_zip_next_1 _))))
  obtain ⟨o, ho, hc⟩ := he
  refine wpAny_bind (wpAny_isInstance (T := "StopIteration") (b := true) ⟨o, ho, hc⟩ isSubtype_stop ?_)
  exact wpAny_pure (hQ _ hk)

abbrev lIt (l : Addr) : Obj := { cls := .type "list_iterator", data := .fields #[.ref l, .int 0 0] }
abbrev tIt (l : Addr) : Obj := { cls := .type "tuple_iterator", data := .fields #[.ref l, .int 0 0] }
abbrev pairO (a b : Value) : Obj := { cls := .type "tuple", data := .seq #[a, b] }
abbrev zipO (TI TO : Addr) : Obj := { cls := .type "zip", data := .fields #[.none, .bool false, .bool false, .ref TI, .ref TO] }
abbrev zK2 (h : Heap) (l1 l2 : Addr) : Heap := (h.push (lIt l1)).push (tIt l2)
abbrev zK3 (h : Heap) (l1 l2 : Addr) : Heap := (zK2 h l1 l2).push (pairO (.ref h.objs.size) (.ref (h.push (lIt l1)).objs.size))
abbrev zK4 (h : Heap) (l1 l2 : Addr) : Heap := (zK3 h l1 l2).push (pairO .none .none)
abbrev zK5 (h : Heap) (l1 l2 : Addr) : Heap := (zK4 h l1 l2).push (zipO (zK2 h l1 l2).objs.size (zK3 h l1 l2).objs.size)

theorem meets_zipLT (l1 l2 : Addr) (xs ys : Array Value) :
    Meets (Builtin.«zip.__new__» ⟨[.type "zip", .ref l1, .ref l2], []⟩) (fun _ R s => s.heap.IsList l1 xs ∧ s.heap.IsTuple l2 ys ∧
      R (.ok (.ret (.ref (zK4 s.heap l1 l2).objs.size))) { s with heap := zK5 s.heap l1 l2 }) :=
  .of_wp fun prog w A R s h => by
    obtain ⟨hl1, hl2, h⟩ := h
    show wpAny _ _ (Builtin.SmallTypes.newClass "zip" ⟨[.type "zip", .ref l1, .ref l2], []⟩ >>= _) _ _ s
    refine wpAny_bind ?_
    show wpAny _ _ (PySem.isType (.type "zip") >>= _) _ _ s
    refine wpAny_bind (wpAny_of_eq (a := true) rfl ?_)
    show wpAny _ _ (isSubtype (.type "zip") (.type "zip") >>= _) _ _ s
    refine wpAny_bind (wpAny_of_eq (a := true) sub_zip (wpAny_pure ?_))
    show wpAny _ _ (Builtin.SmallTypes.iterAll [.ref l1, .ref l2] >>= _) _ _ s
    refine wpAny_bind ?_
    unfold Builtin.SmallTypes.iterAll
    simp only [List.forIn_cons, List.forIn_nil]
    refine wpAny_bind (wpAny_bind (wpAny_bind (wpAny_holding (wpAny_pyIter_list hl1 (wpAny_pure ?_)))))
    refine wpAny_bind (wpAny_bind (wpAny_holding (wpAny_pyIter_tuple (hl2.push _) (wpAny_pure (wpAny_pure (wpAny_pure ?_))))))
    refine wpAny_bind (wpAny_newTuple ?_ (by show 2 ≤ sizeLine; rw [sizeLine_is]; decide))
    refine wpAny_bind (wpAny_newTuple ?_ (by show 2 ≤ sizeLine; rw [sizeLine_is]; decide))
    refine wpAny_bind ?_
    unfold Builtin.SmallTypes.newRecord
    exact wpAny_newObj_type (wpAny_pure ⟨_, rfl, h⟩) (by show 5 ≤ sizeLine + 2; rw [sizeLine_is]; decide)

theorem call_zipLT {l1 l2 : Addr} {xs ys : Array Value} {Q : Value → Shared → Prop} (hl1 : s.heap.IsList l1 xs) (hl2 : s.heap.IsTuple l2 ys)
    (h : Q (.ref (zK4 s.heap l1 l2).objs.size) { s with heap := zK5 s.heap l1 l2 }) : wpAny (model prog w) A (call (.type "zip") [.ref l1, .ref l2]) Q E s := by
  refine callType_new F.called_zip (by decide) (F.typeCall_zip_2 _ _) (F.newCall_zip_2 _ _) (fun obj => F.args_object_init_3 obj _ _) F.entry_zip_new
    (meets_zipLT l1 l2 xs ys) ⟨hl1, hl2, ?_⟩
  exact ⟨⟨_, Heap.get?_push_size _ rfl, rfl⟩, h⟩
end

section
variable {prog : Program} {w : World} {base0 : Heap} {mg mb : Str → Option Value} {t0 n : Nat} {C : PC} {A : Around} {base hE : Heap} {name : Str} {scope : Scope} {L a : Addr} {cd : Value} {outer : List Env}
  {O₀ : Lent} {ρ : PE} {m : Str → Option Value} {O : List Addr} {E : Value → Shared → Prop} {s : Shared} {Q : Flow → Shared → Prop}

noncomputable def ZP (z TO TI i2 i1 l1 l2 : Addr) (i : Nat) (ob : List (Addr × Obj)) : Prop :=
  ∃ a b o1 o2, ob = [(z, zipO TI TO), (TO, pairO a b), (TI, pairO (.ref i1) (.ref i2)), (i2, o2), (i1, o1)] ∧ o1.cls = .type "list_iterator" ∧ o1.data = .fields #[.ref l1, .int i 0] ∧ o2.cls = .type "tuple_iterator" ∧ o2.data = .fields #[.ref l2, .int i 0]

theorem forPair_ok (X : CxE prog w base0 mg mb t0 n C A base hE name scope L a cd outer) (hE' : PassesOwn (model prog w) A (envOf name scope L a cd) E) {x y : String} {xp yp tp : Pos} {x1 : Nat} {b : List Stmt} {f : PE → Out (Fl × PE)} {z TO TI i2 i1 l1 l2 : Addr}
    {ds es : List PyData} {R : Result → Shared → Prop} {O₁ : Lent} {ob : List (Addr × Obj)} (hx : scope.names.lookup (Str.ofString x) = some .local) (hy : scope.names.lookup (Str.ofString y) = some .local) (hb : BodyOK prog w base0 t0 A base hE name scope L a cd outer E f b)
    (D : ZipApart z TI TO i1 i2 l1 l2) (ap : ∀ c ∈ [z, TO, TI, i2, i1], c ∉ O₁.ad ∧ c ≠ L ∧ base.get? c = none ∧ hE.get? c = none) (hlen : ds.length ≤ es.length)
    (h1 : ∀ q ∈ O₁.ob, q.1 ∈ O₁.ad) (hR : R = fun r s' => match r with | .ok fl => Q fl s' | .error e => cameBackBy (model prog w) A (envOf name scope L a cd) E e s')
    (S : St base0 base hE (O₁.with [z, TO, TI, i2, i1] [(.ref l2, .tuple es), (.ref l1, .list ds)] ob) L scope.names t0 ρ s m O) (B : OwnB base ρ m) (hP : ZP z TO TI i2 i1 l1 l2 0 ob)
    (p : PostX base0 base hE O₁ t0 name scope L a cd outer s (pfor [x, y] f (zipD ds es) ρ) Q E) : codeAny (model prog w) A (.forLoop (.Tuple [.Name (Str.ofString x) xp, .Name (Str.ofString y) yp] x1 tp) (.ref z) b [] (envOf name scope L a cd)) R s := by
  subst hR
  have W : Walk prog w A base0 base hE L scope.names t0 O₁ z [z, TO, TI, i2, i1] [(.ref l2, .tuple es), (.ref l1, .list ds)] (fun _ _ => False) [] := ⟨ap, fun _ _ _ _ _ _ _ _ _ _ h => h.elim, fun _ _ _ _ _ _ _ _ _ h => h.elim⟩
  refine codeAny_forLoop_any (fun k s' => ∃ ρ m O i ob, k = ds.length - i ∧ i ≤ ds.length ∧ St base0 base hE (O₁.with [z, TO, TI, i2, i1] [(.ref l2, .tuple es), (.ref l1, .list ds)] ob) L scope.names t0 ρ s' m O ∧ OwnB base ρ m ∧ ZP z TO TI i2 i1 l1 l2 i ob ∧ PostX base0 base hE O₁ t0 name scope L a cd outer s' (pfor [x, y] f (zipD (ds.drop i) (es.drop i)) ρ) Q E)
    ?_ ds.length ⟨ρ, m, O, 0, ob, by omega, Nat.zero_le _, S, B, hP, by simpa using p⟩
  rintro k s ⟨ρ, m, O, i, ob, hk, hi, S, B, ⟨pa, pb, o1, o2, rfl, c1, d1, c2, d2⟩, p⟩
  refine wpAny_passesOwn hE' ?_
  have hz : IsZip s.heap z TI TO .none := (S.ob (z, zipO TI TO) (by simp)).2.2.1
  have hTO : IsPair s.heap TO pa pb := (S.ob (TO, pairO pa pb) (by simp)).2.2.1
  have hTI : IsPair s.heap TI (.ref i1) (.ref i2) := (S.ob (TI, pairO (.ref i1) (.ref i2)) (by simp)).2.2.1
  have hi2 : s.heap.IsTupleIter i2 l2 i := ⟨o2, (S.ob (i2, o2) (by simp)).2.2.1, c2, d2⟩
  have hi1 : s.heap.IsListIter i1 l1 i := ⟨o1, (S.ob (i1, o1) (by simp)).2.2.1, c1, d1⟩
  obtain ⟨l1', xs, e1, hl1, rs1⟩ := list_of_rep (S.gh (.ref l1, .list ds) (by simp))
  cases e1
  obtain ⟨l2', ys, e2, hl2, rs2⟩ := tuple_of_rep (S.gh (.ref l2, .tuple es) (by simp))
  cases e2
  rcases Nat.lt_or_ge i ds.length with hlt | hge
  · have hlt2 : i < es.length := Nat.lt_of_lt_of_le hlt hlen
    rw [List.drop_eq_getElem_cons hlt, List.drop_eq_getElem_cons hlt2] at p
    unfold zipD pfor setT at p
    dsimp only at p
    obtain ⟨v1, hv1, r1⟩ := rs1.get (List.getElem?_eq_getElem hlt)
    obtain ⟨v2, hv2, r2⟩ := rs2.get (List.getElem?_eq_getElem hlt2)
    refine nextLT_item D hz hTI hTO hi1 hi2 hl1 hl2 (by simpa using hv1) (by simpa using hv2) fun h' T a1 a2 a3 a4 a5 a6 a7 => ?_
    refine wpAny_letOwnedTupleGo_zip a1 fun h2 hz2 hs2 => ?_
    have k1 : ∀ b o, b ∉ [z, TO, TI, i2, i1] → s.heap.get? b = some o → h2.get? b = some o := fun b o hb e => by
      simp only [List.mem_cons, List.not_mem_nil, or_false, not_or] at hb
      exact hs2.extBut _ _ hb.1 (a7 b o hb.1 hb.2.1 hb.2.2.2.2 hb.2.2.2.1 e)
    have t1 : IsPair h2 TO v1 v2 := hs2.extBut _ _ D.TOz a2
    have t2 : IsPair h2 TI (.ref i1) (.ref i2) := hs2.extBut _ _ D.TIz (a7 _ _ D.TIz D.TITO D.TIi1 D.TIi2 hTI)
    obtain ⟨q1, t3, t4, t5⟩ := a3.extBut hs2.extBut D.i1z
    obtain ⟨q2, t6, t7, t8⟩ := a4.extBut hs2.extBut D.i2z
    have tT : IsPair h2 T v1 v2 := hs2.extBut _ _ a6 a5
    have S1 := S.turned (ob' := [(z, zipO TI TO), (TO, pairO v1 v2), (TI, pairO (.ref i1) (.ref i2)), (i2, q2), (i1, q1)]) (tk' := s.toks) W h1 k1 (by
        intro c hc
        simp only [List.mem_cons, List.not_mem_nil, or_false] at hc
        rcases hc with rfl | rfl | rfl | rfl | rfl
        · rw [hz2]; rfl
        · rw [t1]; rfl
        · rw [t2]; rfl
        · rw [t6]; rfl
        · rw [t3]; rfl) (by
        intro q hq
        simp only [List.mem_cons, List.not_mem_nil, or_false] at hq
        rcases hq with rfl | rfl | rfl | rfl | rfl
        · exact ⟨by simp, hz2, fun _ _ q => by cases q⟩
        · exact ⟨by simp, t1, fun _ _ q => by cases q⟩
        · exact ⟨by simp, t2, fun _ _ q => by cases q⟩
        · exact ⟨by simp, t6, fun _ _ q => by rw [t8] at q; cases q⟩
        · exact ⟨by simp, t3, fun _ _ q => by rw [t5] at q; cases q⟩) (Nat.le_refl _)
    have c : Carry s.heap O h2 O := fun b o hb e => ⟨hb, o.slots, k1 b o (fun q => hb (S.out b (List.mem_append_left _ q))) e⟩
    have r1 := r1.carry c (Nat.le_refl _)
    have r2 := r2.carry c (Nat.le_refl _)
    refine wpAny_assign_Tuple X.hh ⟨_, tT, rfl, _, rfl⟩ rfl rfl fun h3 he3 => ?_
    have k3 : ∀ b o, h2.get? b = some o → h3.get? b = some o := fun b o e => he3 b o (fun q => by rw [q, Heap.get?_none_of_le (Nat.le_refl _)] at e; cases e) e
    have g3 : Grow base { s with heap := h2, toks := s.toks } h3 s.toks := ⟨.of_keeps k3, fun b o e => k3 b o (S1.bs b o e), Nat.le_refl _⟩
    have S2 := S1.grow g3
    have r1 := r1.carry (.ext g3.ext O) (Nat.le_refl _)
    have r2 := r2.carry (.ext g3.ext O) (Nat.le_refl _)
    refine wpAny_assignInOrder_more (wpAny_assign_Name (store_ok X S2 hx fun h4 hn4 hs4 => ?_))
    have S3 := S2.store hx hn4 hs4 r1
    have r2 := r2.carry (.same S2.lo hs4) (Nat.le_succ _)
    refine wpAny_assignInOrder_more (wpAny_assign_Name (store_ok X S3 hy fun h5 hn5 hs5 => ?_))
    have S4 := S3.store hy hn5 hs5 r2
    refine wpAny_assignInOrder_none ?_
    have p2 := PostS.later (h' := h5) (tk' := s.toks + 1 + 1) (Nat.le_add_right _ 2) p
    refine wpAny_passesOwn hE' (hb _ _ _ _ _ _ S4 ((B.store (Str.ofString x) _ v1).store (Str.ofString y) _ v2) (PostS.turn (fun a ha => List.mem_append_right _ ha) (fun q hq => List.mem_append_right _ hq) (fun q hq => ⟨List.mem_append_right _ hq, h1 q hq⟩) p2 ?_ ?_ ?_))
    · intro ρ' fl h6 tk6 m6 O6 hfl ht6 S6 B6 p6
      have key : ∃ m, m < k ∧ ∃ ρ₁ m₁ O₁' i₁ ob₁, m = ds.length - i₁ ∧ i₁ ≤ ds.length ∧ St base0 base hE (O₁.with [z, TO, TI, i2, i1] [(.ref l2, .tuple es), (.ref l1, .list ds)] ob₁) L scope.names t0 ρ₁ { s with heap := h6, toks := tk6 } m₁ O₁' ∧ OwnB base ρ₁ m₁ ∧ ZP z TO TI i2 i1 l1 l2 i₁ ob₁ ∧ PostX base0 base hE O₁ t0 name scope L a cd outer { s with heap := h6, toks := tk6 } (pfor [x, y] f (zipD (ds.drop i₁) (es.drop i₁)) ρ₁) Q E :=
        ⟨ds.length - (i + 1), by omega, ρ', m6, O6, i + 1, _, rfl, hlt, S6, B6, ⟨v1, v2, q1, q2, rfl, t4, t5, t7, t8⟩, p6⟩
      rcases hfl with rfl | rfl
      · exact key
      · exact key
    · intro s' q; exact q
    · intro v s' q; exact q
  · rw [List.drop_eq_nil_of_le hge] at p
    unfold zipD pfor at p
    have hn := rs1.length
    simp only [Array.length_toList] at hn
    refine nextLT_end X.hh D.i1z D.l1z hz hTI hi1 hl1 (by rw [Array.getElem?_eq_none_iff]; omega) fun h' k1 => ?_
    obtain ⟨O', S1⟩ := S.dropped W h1 (h' := h') fun b o hb e => by
      simp only [List.mem_cons, List.not_mem_nil, or_false, not_or] at hb
      exact k1 b o hb.1 hb.2.2.2.2 e
    exact wpAny_execs_nil (p .next h' s.toks m O' (Nat.le_refl _) S1 B trivial)

theorem zipApart_of {z TI TO i1 i2 l1 l2 k : Nat} (e1 : i1 = k) (e2 : i2 = k + 1) (e3 : TI = k + 2) (e4 : TO = k + 3) (e5 : z = k + 4) (h1 : l1 < k) (h2 : l2 < k) : ZipApart z TI TO i1 i2 l1 l2 := by
  subst e1; subst e2; subst e3; subst e4; subst e5
  constructor <;> (intro h; simp only [Addr] at *; omega)

theorem zip_ok (X : CxE prog w base0 mg mb t0 n C A base hE name scope L a cd outer) (hE' : PassesOwn (model prog w) A (envOf name scope L a cd) E) {x y : String} {xp yp tp fp cp pos : Pos} {x1 : Nat} {q : QE} {as : List Expr} {b : List Stmt} {f : PE → Out (Fl × PE)}
    (hx : scope.names.lookup (Str.ofString x) = some .local) (hy : scope.names.lookup (Str.ofString y) = some .local) (hg : scope.names.lookup (Str.ofString "zip") = some .globalImplicit) (hb : BodyOK prog w base0 t0 A base hE name scope L a cd outer E f b) (h : okL scope q as = true)
    (S : St base0 base hE O₀ L scope.names t0 ρ s m O) (B : OwnB base ρ m)
    (p : PostX base0 base hE O₀ t0 name scope L a cd outer s ((pevs C ρ q).bind fun ds => (pzip ds).bind fun ds => pfor [x, y] f ds ρ) Q E) :
    wpAny (model prog w) A (exec (.For (.Tuple [.Name (Str.ofString x) xp, .Name (Str.ofString y) yp] x1 tp) (.Call (.Name (Str.ofString "zip") fp) as [] cp) b [] pos) (envOf name scope L a cd)) Q E s := by
  refine wpAny_For ?_ (folded_none rfl)
  refine wpAny_Call_ofName (load_blt X S hg bltOf_zip ?_)
  rw [starEach_plain _ (okL_star h), backTo_trees]
  refine PySem.callWith_type (any_trees _ _) (evalArgs_trees (pevs_ok X h s _ S (PostS.bind S p fun ds vs h' tk' _ g r p2 => ?_)))
  have S1 := S.grow g
  obtain ⟨ds, es, rfl⟩ : ∃ xs ys, ds = [.list xs, .tuple ys] := by
    cases ds with
    | nil => exact p2.elim
    | cons d ds =>
      cases ds with
      | nil => cases d <;> exact p2.elim
      | cons d' ds =>
        cases ds with
        | cons _ _ => cases d <;> cases d' <;> exact p2.elim
        | nil =>
          cases d with
          | list xs =>
            cases d' with
            | tuple ys => exact ⟨xs, ys, rfl⟩
            | _ => exact p2.elim
          | _ => cases d' <;> exact p2.elim
  obtain ⟨v1, r', rfl, r1, v2, r'', rfl, r2, rfl⟩ := r
  obtain ⟨l1, xs, rfl, hl1, rs1⟩ := list_of_rep r1
  obtain ⟨l2, ys, rfl, hl2, rs2⟩ := tuple_of_rep r2
  have p3 : PostX base0 base hE O₀ t0 name scope L a cd outer { s with heap := h', toks := tk' } ((if ds.length ≤ es.length then Out.ok (zipD ds es) else .bad).bind fun ds => pfor [x, y] f ds ρ) Q E := p2
  by_cases hlen : ds.length ≤ es.length
  · rw [if_pos hlen] at p3
    refine call_zipLT hl1 hl2 ?_
    have z1 : (h'.push (lIt l1)).objs.size = h'.objs.size + 1 := Heap.size_push ..
    have z2 : (zK2 h' l1 l2).objs.size = h'.objs.size + 2 := by rw [Heap.size_push, z1]
    have z3 : (zK3 h' l1 l2).objs.size = h'.objs.size + 3 := by rw [Heap.size_push, z2]
    have z4 : (zK4 h' l1 l2).objs.size = h'.objs.size + 4 := by rw [Heap.size_push, z3]
    have lt1 : l1 < h'.objs.size := by obtain ⟨_, e, _⟩ := hl1; exact Heap.lt_size e
    have lt2 : l2 < h'.objs.size := by obtain ⟨_, e, _⟩ := hl2; exact Heap.lt_size e
    refine wpAny_pyIter_zip (TI := (zK2 h' l1 l2).objs.size) (TO := (zK3 h' l1 l2).objs.size) (f0 := .none) (Heap.get?_push_size _ rfl) ?_
    have a1 := fresh_apart S1
    have T1 := S1.lendIter X.b0 (lIt l1) rfl (fun _ _ q => by cases q) (gh := [(.ref l1, .list ds)]) fun q hq => by rw [List.mem_singleton.mp hq]; exact r1
    have a2 := fresh_apart T1
    have r2' : Rep (h'.push (lIt l1)) (h'.objs.size :: O) tk' (.tuple es) (.ref l2) := by
      refine r2.carry (fun b ob hb e => ⟨fun hm => ?_, ob.slots, Heap.get?_push_of_some _ e⟩) (Nat.le_refl _)
      rcases List.mem_cons.mp hm with q | q
      · rw [q, Heap.get?_none_of_le (Nat.le_refl _)] at e; cases e
      · exact hb q
    have T2 := T1.lendIter X.b0 (tIt l2) rfl (fun _ _ q => by cases q) (gh := [(.ref l2, .tuple es)]) fun q hq => by rw [List.mem_singleton.mp hq]; exact r2'
    have a3 := fresh_apart T2
    have T3 := T2.lendIter X.b0 (pairO (.ref h'.objs.size) (.ref (h'.push (lIt l1)).objs.size)) rfl (fun _ _ q => by cases q) (gh := []) fun q hq => nomatch hq
    have a4 := fresh_apart T3
    have T4 := T3.lendIter X.b0 (pairO .none .none) rfl (fun _ _ q => by cases q) (gh := []) fun q hq => nomatch hq
    have a5 := fresh_apart T4
    have T5 := T4.lendIter X.b0 (zipO (zK2 h' l1 l2).objs.size (zK3 h' l1 l2).objs.size) rfl (fun _ _ q => by cases q) (gh := []) fun q hq => nomatch hq
    have T6 : St base0 base hE (O₀.with [(zK4 h' l1 l2).objs.size, (zK3 h' l1 l2).objs.size, (zK2 h' l1 l2).objs.size, (h'.push (lIt l1)).objs.size, h'.objs.size] [(.ref l2, .tuple es), (.ref l1, .list ds)] [((zK4 h' l1 l2).objs.size, zipO (zK2 h' l1 l2).objs.size (zK3 h' l1 l2).objs.size), ((zK3 h' l1 l2).objs.size, pairO .none .none), ((zK2 h' l1 l2).objs.size, pairO (.ref h'.objs.size) (.ref (h'.push (lIt l1)).objs.size)), ((h'.push (lIt l1)).objs.size, tIt l2), (h'.objs.size, lIt l1)]) L scope.names t0 ρ { s with heap := zK5 h' l1 l2, toks := tk' } m ((zK4 h' l1 l2).objs.size :: (zK3 h' l1 l2).objs.size :: (zK2 h' l1 l2).objs.size :: (h'.push (lIt l1)).objs.size :: h'.objs.size :: O) := T5
    refine forPair_ok (z := (zK4 h' l1 l2).objs.size) (TO := (zK3 h' l1 l2).objs.size) (TI := (zK2 h' l1 l2).objs.size) (i2 := (h'.push (lIt l1)).objs.size) (i1 := h'.objs.size) (l1 := l1) (l2 := l2) X hE' hx hy hb ?_ ?_ hlen (fun q hq => (S.ob q hq).1) rfl T6 B ⟨.none, .none, lIt l1, tIt l2, rfl, rfl, rfl, rfl, rfl⟩ (PostS.later (h' := _) (Nat.le_refl _) p3)
    · exact zipApart_of rfl z1 z2 z3 z4 lt1 lt2
    · intro c hc
      simp only [List.mem_cons, List.not_mem_nil, or_false] at hc
      rcases hc with rfl | rfl | rfl | rfl | rfl
      · exact ⟨fun h => a5.1 (List.mem_cons_of_mem _ (List.mem_cons_of_mem _ (List.mem_cons_of_mem _ (List.mem_cons_of_mem _ h)))), a5.2⟩
      · exact ⟨fun h => a4.1 (List.mem_cons_of_mem _ (List.mem_cons_of_mem _ (List.mem_cons_of_mem _ h))), a4.2⟩
      · exact ⟨fun h => a3.1 (List.mem_cons_of_mem _ (List.mem_cons_of_mem _ h)), a3.2⟩
      · exact ⟨fun h => a2.1 (List.mem_cons_of_mem _ h), a2.2⟩
      · exact a1
  · rw [if_neg hlen] at p3; exact p3.elim
end
end Mine

open PySem PyProof.Rows
set_option maxRecDepth 10000
namespace Mine

theorem ofAsg {st : Stmt} {x : Str} {p : Pos} {e : Expr} (h : asg? st = some (x, p, e)) : ∃ q, st = .Assign [.Name x p] e q := by
  cases st with
  | Assign ts v q =>
    have h' : ((one? ts).bind nmp?).map (fun q => (q.1, q.2, v)) = some (x, p, e) := h
    cases h1 : one? ts with
    | none => rw [h1] at h'; exact nn h'
    | some t =>
      obtain rfl := ofOne h1
      rw [h1] at h'
      cases t with
      | Name y p' => cases h'; exact ⟨q, rfl⟩
      | _ => exact nn h'
  | _ => exact nn h
theorem ofCop {e a b c : Expr} {sc : Scope} {lp : Pos} (h : cop? e = some ((a, b, c), sc, lp)) : e = .ListComp a [⟨b, c, [], 0⟩] sc lp := by
  cases e with
  | ListComp elt gens sc' lp' =>
    have h' : (gen? gens).map (fun q => ((elt, q.1, q.2), sc', lp')) = some ((a, b, c), sc, lp) := h
    match gens, h' with
    | [⟨t, it, ifs, k⟩], h' =>
      have h2 : (if (ifs.isEmpty && k == 0) = true then some (t, it) else none).map (fun q => ((elt, q.1, q.2), sc', lp')) = some ((a, b, c), sc, lp) := h'
      split at h2
      · rename_i hk
        cases h2
        rw [Bool.and_eq_true] at hk
        obtain rfl : ifs = [] := List.isEmpty_iff.mp hk.1
        obtain rfl : k = 0 := eq_of_beq hk.2
        rfl
      · exact nn h2
  | _ => exact nn h
theorem ofSt1 {l : List Stmt} {s : Stmt} (h : st1? l = some s) : l = [s] := by
  match l, h with
  | [x], h => cases h; rfl
theorem ofHnd {hs : List ExceptHandler} {v : Expr} {s : Stmt} (h : hnd? hs = some (v, s)) : ∃ p, hs = [.ExceptHandler (some v) none [s] p] := by
  match hs, h with
  | [.ExceptHandler ty nm b p], h =>
    have h' : (ty.bind fun v => if nm.isNone = true then (st1? b).map fun s => (v, s) else none) = some (v, s) := h
    cases ty with
    | none => exact nn h'
    | some v' =>
      have h2 : (if nm.isNone = true then (st1? b).map fun s => (v', s) else none) = some (v, s) := h'
      split at h2
      · rename_i hk
        obtain rfl : nm = none := Option.isNone_iff_eq_none.mp hk
        cases h1 : st1? b with
        | none => rw [h1] at h2; exact nn h2
        | some s' =>
          rw [h1] at h2
          cases h2
          obtain rfl := ofSt1 h1
          exact ⟨p, rfl⟩
      · exact nn h2
theorem ofTry {st s h' : Stmt} {v : Expr} (h : try? st = some (s, v, h')) : ∃ p q, st = .Try [s] [.ExceptHandler (some v) none [h'] p] [] [] q := by
  cases st with
  | Try b hs o f q =>
    have h2 : (if (o.isEmpty && f.isEmpty) = true then (st1? b).bind fun s => (hnd? hs).map fun q => (s, q.1, q.2) else none) = some (s, v, h') := h
    split at h2
    · rename_i hk
      rw [Bool.and_eq_true] at hk
      obtain rfl : o = [] := List.isEmpty_iff.mp hk.1
      obtain rfl : f = [] := List.isEmpty_iff.mp hk.2
      cases h1 : st1? b with
      | none => rw [h1] at h2; exact nn h2
      | some s' =>
        rw [h1] at h2
        cases h3 : hnd? hs with
        | none => rw [h3] at h2; exact nn h2
        | some y =>
          rw [h3] at h2
          cases h2
          obtain rfl := ofSt1 h1
          obtain ⟨p, rfl⟩ := ofHnd (v := y.1) (s := y.2) h3
          exact ⟨p, q, rfl⟩
    · exact nn h2
  | _ => exact nn h
theorem ofFor {st : Stmt} {t it : Expr} {b : List Stmt} (h : for? st = some (t, it, b)) : ∃ p, st = .For t it b [] p := by
  cases st with
  | For t' it' b' o p =>
    have h2 : (if o.isEmpty = true then some (t', it', b') else none) = some (t, it, b) := h
    split at h2
    · rename_i hk
      obtain rfl : o = [] := List.isEmpty_iff.mp hk
      cases h2
      exact ⟨p, rfl⟩
    · exact nn h2
  | _ => exact nn h
theorem ofRse {st : Stmt} {e : Expr} (h : rse? st = some e) : ∃ p, st = .Raise (some e) none p := by
  cases st with
  | Raise ex c p =>
    have h2 : (if c.isNone = true then ex else none) = some e := h
    split at h2
    · rename_i hk
      obtain rfl : c = none := Option.isNone_iff_eq_none.mp hk
      cases h2
      exact ⟨p, rfl⟩
    · exact nn h2
  | _ => exact nn h
theorem ofWh {st : Stmt} {t : Expr} {b : List Stmt} (h : wh? st = some (t, b)) : ∃ p, st = .While t b [] p := by
  cases st with
  | While t' b' o p =>
    have h2 : (if o.isEmpty = true then some (t', b') else none) = some (t, b) := h
    split at h2
    · rename_i hk
      obtain rfl : o = [] := List.isEmpty_iff.mp hk
      cases h2
      exact ⟨p, rfl⟩
    · exact nn h2
  | _ => exact nn h
theorem ofIf {st : Stmt} {t : Expr} {b o : List Stmt} (h : if? st = some (t, b, o)) : ∃ p, st = .If t b o p := by
  cases st with
  | If t' b' o' p => cases h; exact ⟨p, rfl⟩
  | _ => exact nn h
theorem ofExp {st : Stmt} {e : Expr} (h : exp? st = some e) : ∃ p, st = .Expr e p := by
  cases st with
  | Expr t' p => cases h; exact ⟨p, rfl⟩
  | _ => exact nn h
theorem ofRet {st : Stmt} {e : Expr} (h : ret? st = some e) : ∃ p, st = .Return (some e) p := by
  cases st with
  | Return t' p => cases h; exact ⟨p, rfl⟩
  | _ => exact nn h
theorem ofLst {e : Expr} {es : List Expr} (h : lst? e = some es) : ∃ p, e = .List es p := by
  cases e with
  | List t' p => cases h; exact ⟨p, rfl⟩
  | _ => exact nn h
theorem ofTup2 {e u v : Expr} (h : (tup? e).bind two? = some (u, v)) : ∃ k p, e = .Tuple [u, v] k p := by
  cases e with
  | Tuple es k p =>
    have h' : two? es = some (u, v) := h
    match es, h' with
    | [a, b], h' => cases h'; exact ⟨k, p, rfl⟩
  | _ => exact nn h
theorem ofCon {e : Expr} {c : Const} (h : con? e = some c) : ∃ k p, e = .Constant c k p := by
  cases e with
  | Constant t' k p => cases h; exact ⟨k, p, rfl⟩
  | _ => exact nn h

section
variable {prog : Program} {w : World} {base0 : Heap} {mg mb : Str → Option Value} {t0 n : Nat} {C : PC} {A : Around} {base hE : Heap} {name : Str} {scope : Scope} {L a : Addr} {cd : Value} {outer : List Env}
  {E : Value → Shared → Prop}

abbrev ExS (prog : Program) (w : World) (base0 : Heap) (t0 : Nat) (C : PC) (A : Around) (base hE : Heap) (name : Str) (scope : Scope) (L a : Addr) (cd : Value) (outer : List Env) (E : Value → Shared → Prop) (q : QS) : Prop :=
  ∀ (st : Stmt) (O₀ : Lent) (ρ : PE) (s : Shared) (m : Str → Option Value) (O : List Addr) (Q : Flow → Shared → Prop), okS scope q st = true → St base0 base hE O₀ L scope.names t0 ρ s m O → OwnB base ρ m →
    PostX base0 base hE O₀ t0 name scope L a cd outer s (pex C q ρ) Q E → wpAny (model prog w) A (exec st (envOf name scope L a cd)) Q E s
abbrev ExB (prog : Program) (w : World) (base0 : Heap) (t0 : Nat) (C : PC) (A : Around) (base hE : Heap) (name : Str) (scope : Scope) (L a : Addr) (cd : Value) (outer : List Env) (E : Value → Shared → Prop) (q : QS) : Prop :=
  ∀ (sts : List Stmt), okB scope q sts = true → BodyOK prog w base0 t0 A base hE name scope L a cd outer E (pex C q) sts

theorem ex_all (X : CxE prog w base0 mg mb t0 n C A base hE name scope L a cd outer) (hE' : PassesOwn (model prog w) A (envOf name scope L a cd) E) (q : QS) :
    ExS prog w base0 t0 C A base hE name scope L a cd outer E q ∧ ExB prog w base0 t0 C A base hE name scope L a cd outer E q := by
  have noB : ∀ {q : QS}, (∀ sts, okB scope q sts = false) → ExB prog w base0 t0 C A base hE name scope L a cd outer E q := fun h sts k => (Bool.false_ne_true ((h sts).symm.trans k)).elim
  induction q with
  | ret q =>
    refine ⟨?_, noB fun _ => rfl⟩
    intro st O₀ ρ s m O Q h S B p
    obtain ⟨e, h1, h2⟩ := opt_of (o := ret? st) (f := okE scope q) h
    obtain ⟨pos, rfl⟩ := ofRet h1
    exact ret_ok X S B h2 p
  | cont =>
    refine ⟨?_, noB fun _ => rfl⟩
    intro st O₀ ρ s m O Q h S B p
    cases st with
    | Continue pos => exact wpAny_Continue (p .cont s.heap s.toks m O (Nat.le_refl _) S B trivial)
    | _ => exact (Bool.false_ne_true h).elim
  | asg x q =>
    refine ⟨?_, noB fun _ => rfl⟩
    intro st O₀ ρ s m O Q h S B p
    obtain ⟨y, xp, e, h1, h2⟩ := opt3_of (o := asg? st) (f := fun y _ e => y == Str.ofString x && isL scope x && okE scope q e) h
    obtain ⟨pos, rfl⟩ := ofAsg h1
    obtain ⟨h3, h4, h5⟩ := and3 h2
    obtain rfl : y = _ := eq_of_beq h3
    exact assign_ok X S B (ofLk h4) h5 p
  | own x q =>
    refine ⟨?_, noB fun _ => rfl⟩
    intro st O₀ ρ s m O Q h S B p
    obtain ⟨y, xp, e, h1, h2⟩ := opt3_of (o := asg? st) (f := fun y _ e => y == Str.ofString x && isL scope x && oB (lst? e) fun es => okL scope q es) h
    obtain ⟨pos, rfl⟩ := ofAsg h1
    obtain ⟨h3, h4, h5⟩ := and3 h2
    obtain rfl : y = _ := eq_of_beq h3
    obtain ⟨es, h6, h7⟩ := opt_of h5
    obtain ⟨lp, rfl⟩ := ofLst h6
    exact listOwn_ok X S B (ofLk h4) h7 p
  | pop x l =>
    refine ⟨?_, noB fun _ => rfl⟩
    intro st O₀ ρ s m O Q h S B p
    obtain ⟨y, xp, e, h1, h2⟩ := opt3_of (o := asg? st) (f := fun y _ e => y == Str.ofString x && isL scope x && o3B (meth? e) fun o n as => isN o l && n == Str.ofString "pop" && as.isEmpty) h
    obtain ⟨pos, rfl⟩ := ofAsg h1
    obtain ⟨h3, h4, h5⟩ := and3 h2
    obtain rfl : y = _ := eq_of_beq h3
    obtain ⟨o, nn, as, h6, h7⟩ := opt3_of h5
    obtain ⟨ap, cp, rfl, h8, h9⟩ := ofMeth h6
    obtain ⟨h10, h11, h12⟩ := and3 h7
    obtain ⟨np, rfl⟩ := ofN h10
    obtain rfl : nn = _ := eq_of_beq h11
    obtain rfl : as = [] := List.isEmpty_iff.mp h12
    have p : PostX base0 base hE O₀ t0 name scope L a cd outer s (ppop ρ (Str.ofString x) (Str.ofString l) (ρ (Str.ofString l))) Q E := p
    cases hv : ρ (Str.ofString l) with
    | none => rw [hv] at p; exact p.elim
    | some v =>
      rw [hv] at p
      cases v with
      | dat d => exact p.elim
      | own ds =>
        have p : PostX base0 base hE O₀ t0 name scope L a cd outer s (match ds.getLast? with | some d => if ds.length ≤ LIM then .ok (.next, upd (upd ρ (Str.ofString l) (.own ds.dropLast)) (Str.ofString x) (.dat d)) else .bad | none => .bad) Q E := p
        cases hd : ds.getLast? with
        | none => rw [hd] at p; exact p.elim
        | some d =>
          rw [hd] at p
          by_cases hle : ds.length ≤ LIM
          · have p : PostX base0 base hE O₀ t0 name scope L a cd outer s (if ds.length ≤ LIM then .ok (.next, upd (upd ρ (Str.ofString l) (.own ds.dropLast)) (Str.ofString x) (.dat d)) else .bad) Q E := p
            rw [if_pos hle] at p
            exact popS_ok X S B (ofLk h4) h9 hv hd hle p
          · have p : PostX base0 base hE O₀ t0 name scope L a cd outer s (if ds.length ≤ LIM then .ok (.next, upd (upd ρ (Str.ofString l) (.own ds.dropLast)) (Str.ofString x) (.dat d)) else .bad) Q E := p
            rw [if_neg hle] at p; exact p.elim
  | cop x q y =>
    refine ⟨?_, noB fun _ => rfl⟩
    intro st O₀ ρ s m O Q h S B p
    obtain ⟨x', px, e, h1, h2⟩ := opt3_of (o := asg? st) (f := fun x' px e => x' == Str.ofString x && isL scope x && o3B (cop? e) fun g s' lp =>
      (o2B (call? g.1) fun f as => f == Str.ofString "list" && oB (one? as) fun a => isN a y) && isN g.2.1 y && okE scope q g.2.2 && decide (px.line = lp.line)
        && decide (s'.names = [(Str.ofString ".0", .local), (Str.ofString y, .local), (Str.ofString "list", .globalImplicit)]) && decide (s'.kind = .function) && decide (y ≠ "list") && decide (y ≠ "__debug__") && decide (x ≠ y) && decide (x ≠ ".0")) h
    obtain ⟨pos, rfl⟩ := ofAsg h1
    obtain ⟨h3, h4, h5⟩ := and3 h2
    obtain rfl : x' = _ := eq_of_beq h3
    obtain ⟨g, s', lp, h6, h7⟩ := opt3_of h5
    obtain rfl := ofCop (a := g.1) (b := g.2.1) (c := g.2.2) h6
    obtain ⟨h7, k10⟩ := and2 h7
    obtain ⟨h7, k9⟩ := and2 h7
    obtain ⟨h7, k8⟩ := and2 h7
    obtain ⟨h7, k7⟩ := and2 h7
    obtain ⟨h7, k6⟩ := and2 h7
    obtain ⟨h7, k5⟩ := and2 h7
    obtain ⟨h7, k4⟩ := and2 h7
    obtain ⟨k1, k2, k3⟩ := and3 h7
    obtain ⟨f, as, c1, c2⟩ := opt2_of k1
    obtain ⟨np, cp, e1⟩ := ofCall c1
    obtain ⟨c3, c4⟩ := and2 c2
    obtain rfl : f = _ := eq_of_beq c3
    obtain ⟨b, c5, c6⟩ := opt_of c4
    obtain rfl := ofOne c5
    obtain ⟨bp, rfl⟩ := ofN c6
    obtain ⟨tp, e2⟩ := ofN k2
    rw [e1, e2]
    have ne : ∀ {u v : String}, u ≠ v → Str.ofString u ≠ Str.ofString v := fun h e => h (by rwa [ofS_inj] at e)
    exact copies_ok X S B (ofLk h4) k3 (ne (of_decide_eq_true k7)) (ne (of_decide_eq_true k8)) (ne (of_decide_eq_true k9)) (ne (of_decide_eq_true k10)) (of_decide_eq_true k4) (of_decide_eq_true k5) (of_decide_eq_true k6) p
  | app l q =>
    refine ⟨?_, noB fun _ => rfl⟩
    intro st O₀ ρ s m O Q h S B p
    obtain ⟨e, h1, h2⟩ := opt_of (o := exp? st) (f := fun e => o3B (meth? e) fun o n as => isN o l && n == Str.ofString "append" && oB (one? as) fun a => okE scope q a) h
    obtain ⟨pos, rfl⟩ := ofExp h1
    obtain ⟨o, nn, as, h6, h7⟩ := opt3_of h2
    obtain ⟨ap, cp, rfl, h8, h9⟩ := ofMeth h6
    obtain ⟨h10, h11, h12⟩ := and3 h7
    obtain ⟨np, rfl⟩ := ofN h10
    obtain rfl : nn = _ := eq_of_beq h11
    obtain ⟨y, h13, h14⟩ := opt_of h12
    obtain rfl := ofOne h13
    have p : PostX base0 base hE O₀ t0 name scope L a cd outer s (papp ρ (Str.ofString l) (pev C ρ q) (ρ (Str.ofString l))) Q E := p
    cases hv : ρ (Str.ofString l) with
    | none => rw [hv] at p; exact p.elim
    | some v =>
      rw [hv] at p
      cases v with
      | dat d => exact p.elim
      | own ds => exact appendS_ok X S B h9 h14 p hv
  | ite t b o hb ho =>
    refine ⟨?_, noB fun _ => rfl⟩
    intro st O₀ ρ s m O Q h S B p
    obtain ⟨t', b', o', h1, h2⟩ := opt3_of (o := if? st) (f := fun t' b' o' => okE scope t t' && okB scope b b' && okB scope o o') h
    obtain ⟨pos, rfl⟩ := ofIf h1
    obtain ⟨h3, h4, h5⟩ := and3 h2
    have p : PostX base0 base hE O₀ t0 name scope L a cd outer s ((ptest C ρ t).bind fun c => if c then pex C b ρ else pex C o ρ) Q E := p
    refine wpAny_If (test_ok X h3 s _ S (PostS.bind S p fun bv v h' tk' _ g r p' => ?_))
    obtain rfl : v = bv := r
    cases v with
    | false => exact ho.2 o' h5 O₀ ρ _ m O Q (S.grow g) B p'
    | true => exact hb.2 b' h4 O₀ ρ _ m O Q (S.grow g) B p'
  | wh t b hb =>
    refine ⟨?_, noB fun _ => rfl⟩
    intro st O₀ ρ s m O Q h S B p
    obtain ⟨t', b', h1, h2⟩ := opt2_of (o := wh? st) (f := fun t' b' => okE scope t t' && okB scope b b') h
    obtain ⟨pos, rfl⟩ := ofWh h1
    obtain ⟨h3, h4⟩ := and2 h2
    exact while_ok X hE' h3 (hb.2 b' h4) S B C.fuel p
  | frn x q b hb =>
    refine ⟨?_, noB fun _ => rfl⟩
    intro st O₀ ρ s m O Q h S B p
    obtain ⟨t', it, b', h1, h2⟩ := opt3_of (o := for? st) (f := fun t it b' => isN t x && isL scope x && okE scope q it && okB scope b b') h
    obtain ⟨pos, rfl⟩ := ofFor h1
    obtain ⟨h2, h6⟩ := and2 h2
    obtain ⟨h3, h4, h5⟩ := and3 h2
    obtain ⟨xp, rfl⟩ := ofN h3
    exact forN_ok X hE' (ofLk h4) (hb.2 b' h6) h5 S B p
  | rng x q b hb =>
    refine ⟨?_, noB fun _ => rfl⟩
    intro st O₀ ρ s m O Q h S B p
    obtain ⟨t', it, b', h1, h2⟩ := opt3_of (o := for? st) (f := fun t it b' => isN t x && isL scope x && isG scope "range" && (o2B (call? it) fun f as => f == Str.ofString "range" && oB (one? as) fun a => okE scope q a) && okB scope b b') h
    obtain ⟨pos, rfl⟩ := ofFor h1
    obtain ⟨h2, h6⟩ := and2 h2
    obtain ⟨h2, h7⟩ := and2 h2
    obtain ⟨h3, h4, h5⟩ := and3 h2
    obtain ⟨xp, rfl⟩ := ofN h3
    obtain ⟨f, as, c1, c2⟩ := opt2_of h7
    obtain ⟨np, cp, rfl⟩ := ofCall c1
    obtain ⟨c3, c4⟩ := and2 c2
    obtain rfl : f = _ := eq_of_beq c3
    obtain ⟨y, c5, c6⟩ := opt_of c4
    obtain rfl := ofOne c5
    exact rngN_ok X hE' (ofLk h4) (ofGk h5) (hb.2 b' h6) c6 S B p
  | zip x y q b hb =>
    refine ⟨?_, noB fun _ => rfl⟩
    intro st O₀ ρ s m O Q h S B p
    obtain ⟨t', it, b', h1, h2⟩ := opt3_of (o := for? st) (f := fun t it b' => isL scope x && isL scope y && isG scope "zip" && (o2B ((tup? t).bind two?) fun u v => isN u x && isN v y) && (o2B (call? it) fun f as => f == Str.ofString "zip" && okL scope q as) && okB scope b b') h
    obtain ⟨pos, rfl⟩ := ofFor h1
    obtain ⟨h2, h6⟩ := and2 h2
    obtain ⟨h2, h7⟩ := and2 h2
    obtain ⟨h2, h8⟩ := and2 h2
    obtain ⟨h3, h4, h5⟩ := and3 h2
    obtain ⟨u, v, c1, c2⟩ := opt2_of h8
    obtain ⟨x1, tp, rfl⟩ := ofTup2 c1
    obtain ⟨c3, c4⟩ := and2 c2
    obtain ⟨xp, rfl⟩ := ofN c3
    obtain ⟨yp, rfl⟩ := ofN c4
    obtain ⟨f, as, c5, c6⟩ := opt2_of h7
    obtain ⟨np, cp, rfl⟩ := ofCall c5
    obtain ⟨c7, c8⟩ := and2 c6
    obtain rfl : f = _ := eq_of_beq c7
    exact zip_ok X hE' (ofLk h3) (ofLk h4) (ofGk h5) (hb.2 b' h6) c8 S B p
  | raise =>
    refine ⟨?_, noB fun _ => rfl⟩
    intro st O₀ ρ s m O Q h S B p
    obtain ⟨e, h1, h2⟩ := opt_of (o := rse? st) (f := fun e => isG scope "ValueError" && o2B (call? e) fun f as => f == Str.ofString "ValueError" && oB (one? as) fun a => (cst? a).isSome) h
    obtain ⟨pos, rfl⟩ := ofRse h1
    obtain ⟨h3, h4⟩ := and2 h2
    obtain ⟨f, as, c1, c2⟩ := opt2_of h4
    obtain ⟨np, cp, rfl⟩ := ofCall c1
    obtain ⟨c3, c4⟩ := and2 c2
    obtain rfl : f = _ := eq_of_beq c3
    obtain ⟨y, c5, c6⟩ := opt_of c4
    obtain rfl := ofOne c5
    obtain ⟨c, hc⟩ := Option.isSome_iff_exists.mp c6
    obtain ⟨k, kp, rfl, _⟩ := ofCst hc
    exact raise_ok X S (ofGk h3) p
  | trye x q y c =>
    refine ⟨?_, noB fun _ => rfl⟩
    intro st O₀ ρ s m O Q h S B p
    obtain ⟨s1, v, s2, h1, h2⟩ := opt3_of (o := try? st) (f := fun s v h => isG scope "ValueError" && isN v "ValueError" && (o3B (asg? s) fun x' _ e => x' == Str.ofString x && isL scope x && okE scope q e)
      && o3B (asg? h) fun y' _ e => y' == Str.ofString y && isL scope y && oB (con? e) fun k => okC c k) h
    obtain ⟨p3, p4, rfl⟩ := ofTry h1
    obtain ⟨h2, h6⟩ := and2 h2
    obtain ⟨h3, h4, h5⟩ := and3 h2
    obtain ⟨vp, rfl⟩ := ofN h4
    obtain ⟨x', xp, e, h7, h8⟩ := opt3_of h5
    obtain ⟨p1, rfl⟩ := ofAsg h7
    obtain ⟨h9, h10, h11⟩ := and3 h8
    obtain rfl : x' = _ := eq_of_beq h9
    obtain ⟨y', yp, e2, h12, h13⟩ := opt3_of h6
    obtain ⟨p2, rfl⟩ := ofAsg h12
    obtain ⟨h14, h15, h16⟩ := and3 h13
    obtain rfl : y' = _ := eq_of_beq h14
    obtain ⟨cc, h17, h18⟩ := opt_of h16
    obtain ⟨k, kp, rfl⟩ := ofCon h17
    have p : PostX base0 base hE O₀ t0 name scope L a cd outer s (ptry ρ (Str.ofString x) (Str.ofString y) c (pev C ρ q)) Q E := p
    refine try_ok X S B (ofLk h10) (ofLk h15) (ofGk h3) h11 h18 ?_ ?_ ?_
    · intro d hd; rw [hd] at p; exact p
    · intro hd; rw [hd] at p; exact p
    · intro hd; rw [hd] at p; exact p
  | frz x q hq =>
    refine ⟨?_, noB fun _ => rfl⟩
    intro st O₀ ρ s m O Q h S B p
    have p : PostX base0 base hE O₀ t0 name scope L a cd outer s (pex C q (frz1 ρ (Str.ofString x) (ρ (Str.ofString x)))) Q E := p
    rw [frz1_eq] at p
    obtain ⟨O', S', _⟩ := S.freeze [Str.ofString x]
    exact hq.1 st O₀ _ s m O' Q h S' (B.frz _) p
  | nil =>
    refine ⟨fun st _ _ _ _ _ _ h => (Bool.false_ne_true h).elim, ?_⟩
    intro sts h O₀ ρ s m O Q S B p
    obtain rfl : sts = [] := List.isEmpty_iff.mp h
    exact wpAny_execs_nil (p .next s.heap s.toks m O (Nat.le_refl _) S B trivial)
  | seq q r hq hr =>
    refine ⟨fun st _ _ _ _ _ _ h => (Bool.false_ne_true h).elim, ?_⟩
    intro sts h O₀ ρ s m O Q S B p
    cases sts with
    | nil => exact (Bool.false_ne_true h).elim
    | cons st sts =>
      obtain ⟨h1, h2⟩ := and2 (x := okS scope q st) (y := okB scope r sts) h
      have p : PostX base0 base hE O₀ t0 name scope L a cd outer s ((pex C q ρ).bind (pseqk (pex C r))) Q E := p
      refine wpAny_execs_cons (hq.1 st O₀ ρ s m O _ h1 S B ?_)
      cases hx : pex C q ρ with
      | bad => rw [hx] at p; exact p
      | exc => rw [hx] at p; exact p
      | ok x =>
        rw [hx] at p
        obtain ⟨fl, ρ'⟩ := x
        intro f' h' tk' m' O' ht S' B' hf
        cases fl with
        | next =>
          cases f' <;> first | exact hf.elim | exact hr.2 sts h2 O₀ ρ' _ m' O' Q S' B' (PostS.later ht p)
        | brk => cases f' <;> first | exact hf.elim | exact p .brk h' tk' m' O' ht S' B' trivial
        | cont => cases f' <;> first | exact hf.elim | exact p .cont h' tk' m' O' ht S' B' trivial
        | ret d => cases f' <;> first | exact hf.elim | exact p (.ret _) h' tk' m' O' ht S' B' hf
end
end Mine

open PySem PyProof.Rows
set_option maxRecDepth 10000
namespace Mine

theorem zip_lookup {h : Heap} {O : List Addr} {tk : Nat} (x : Str) : ∀ {ps : List Str} {ds : List PyData} {vs : List Value}, Reps h O tk ds vs → ∀ {d}, (ps.zip ds).reverse.lookup x = some d →
    x ∈ ps ∧ ∃ v, (ps.zip vs).reverse.lookup x = some v ∧ Rep h O tk d v
  | [], _, _, _, _, e => by simp at e
  | _ :: _, [], _, _, _, e => by simp at e
  | q :: ps, d' :: ds, _, r, d, e => by
    obtain ⟨v, w, h1, h2, h3⟩ := r
    subst h1
    simp only [List.zip_cons_cons, List.reverse_cons] at e ⊢
    rw [lookup_app] at e ⊢
    cases hq : (ps.zip ds).reverse.lookup x with
    | some d2 =>
      rw [hq] at e
      cases e
      obtain ⟨k1, v', k2, k3⟩ := zip_lookup x h3 hq
      rw [k2]
      exact ⟨List.mem_cons_of_mem _ k1, v', rfl, k3⟩
    | none =>
      rw [hq] at e
      have hn : (ps.zip w).reverse.lookup x = none := by
        have : ∀ {ps : List Str} {ds : List PyData} {vs : List Value}, Reps h O tk ds vs → (ps.zip ds).reverse.lookup x = none → (ps.zip vs).reverse.lookup x = none := by
          intro ps
          induction ps with
          | nil => intro ds vs _ _; rfl
          | cons q ps ih =>
            intro ds vs r e
            cases ds with
            | nil => obtain rfl : vs = [] := r; rfl
            | cons d ds =>
              obtain ⟨v, w, h1, h2, h3⟩ := r
              subst h1
              simp only [List.zip_cons_cons, List.reverse_cons] at e ⊢
              rw [lookup_app] at e ⊢
              cases hq : (ps.zip ds).reverse.lookup x with
              | some d2 => rw [hq] at e; cases e
              | none =>
                rw [hq] at e
                rw [ih h3 hq]
                dsimp only at e ⊢
                split at e
                · cases e
                · rename_i hx; rw [if_neg hx]
        exact this h3 hq
      rw [hn]
      dsimp only at e ⊢
      split at e
      · rename_i hx
        cases e
        rw [if_pos hx]
        exact ⟨by rw [beq_iff_eq.mp hx]; exact List.mem_cons_self .., v, rfl, h2⟩
      · cases e

section
variable {prog : Program} {w : World} {base0 : Heap} {mg mb : Str → Option Value} {t0 n : Nat} {C : PC} {name : Str} {scope : Scope} {a : Addr} {cd pm doc : Value} {params : Arguments} {body : List Stmt} {q : QS} {o : Obj}

/-- a def's call does what the pure evaluator says -/
theorem def_ok (G : Glo prog w base0 mg mb t0 n C) (ho : base0.get? a = some o) (hdata : o.data = .func (Calls.docDef name params body scope pm cd doc)) (hcd : base0.CodeRec cd name) (ps : List Str)
    (hb : ∀ vs : List Value, vs.length = ps.length → bindArgs (Calls.docDef name params body scope pm cd doc) ⟨vs, []⟩ = pure (ps.zip vs))
    (hloc : ∀ x ∈ ps, scope.names.lookup x = some .local) (hsto : okB scope q body = true) (dbg : scope.names.lookup (Str.ofString "__debug__") = none)
    (hco : scope.isCoroutine = false) (hgen : scope.isGenerator = false) (hk : scope.kind = .function) (hcell : ∀ x ∈ scope.names, x.2 ≠ .cell) :
    CallOK prog w base0 t0 (n + 1) a (pcall C ps q) := by
  refine ⟨⟨o, _, ho, hdata⟩, ?_⟩
  intro A s base outer O vs ds Q E hh hfr hdep huni hb0 hbs hff hO htk hr p
  unfold pcall at p
  split at p
  rotate_left
  · exact p.elim
  rename_i hlen
  have hvl : vs.length = ps.length := by rw [hr.length, hlen]
  have up : ∀ b o, base0.get? b = some o → s.heap.get? b = some o := fun b o e => hbs b o (hb0 b o e)
  have hlim : s.heap.NoLimit := G.lim.keeps up
  refine wpAny_call (call_plain (by omega) (up _ _ ho) hdata hlim (hcd.keeps up) (hb vs hvl) (fun x hx => hloc x.1 (List.of_mem_zip (a := x.1) (b := x.2) hx).1) (fun h₁ F => ?_) hco hgen hk hcell)
  have fresh : s.heap.get? s.heap.objs.size = none := Heap.get?_none_of_le (Nat.le_refl _)
  have nb : base.get? s.heap.objs.size = none := by
    cases hq : base.get? s.heap.objs.size with
    | none => rfl
    | some o' => have := hbs _ _ hq; rw [fresh] at this; cases this
  have nb0 : base0.get? s.heap.objs.size = none := by
    cases hq : base0.get? s.heap.objs.size with
    | none => rfl
    | some o' => have := hb0 _ _ hq; rw [nb] at this; cases this
  have hlz : (ps.zip vs).length = ps.length := by rw [List.length_zip, hvl, Nat.min_self]
  have X : CxE prog w base0 mg mb t0 n C (A.deeper (envOf name scope s.heap.objs.size a cd)) base s.heap name scope s.heap.objs.size a cd outer := by
    refine ⟨G, hh, ?_, ?_, ?_, hb0, hff, hk, dbg⟩
    · show A.frames.map _ = _
      rw [hfr]; rfl
    · show A.depth + 1 + n < _
      omega
    · show A.units + 3 + 4 * n + 100 < _
      omega
  have c : Carry s.heap O h₁ (s.heap.objs.size :: O) := fun b ob hb e => by
    refine ⟨fun hm => ?_, ob.slots, F.keep b ob e⟩
    rcases List.mem_cons.mp hm with q | q
    · rw [q, fresh] at e; cases e
    · exact hb q
  have S : St base0 base s.heap ⟨O, [], []⟩ s.heap.objs.size scope.names t0 (fun y => ((ps.zip ds).reverse.lookup y).map .dat) { s with heap := h₁, toks := s.toks + (ps.zip vs).length } (fun x => (ps.zip vs).reverse.lookup x) (s.heap.objs.size :: O) := by
    refine ⟨F.ns, fun b o e => F.keep b o (hbs b o e), .of_keeps F.keep, List.mem_cons_self .., fun a ha => List.mem_cons_of_mem _ ha, (fun q hq => nomatch hq), (fun q hq => nomatch hq), ?_, nb, fresh, ?_, ?_, ?_, ?_, Nat.le_trans htk (Nat.le_add_right _ _)⟩
    · intro b hb
      rcases List.mem_cons.mp hb with rfl | q
      · obtain ⟨oL, _, _, k1, _⟩ := F.ns
        exact ⟨by show (h₁.get? _).isSome = true; rw [k1]; rfl, nb0⟩
      · refine ⟨Ext.some (.of_keeps F.keep) (hO b q).1, (hO b q).2⟩
    · intro x d e
      simp only [Option.map_eq_some_iff] at e
      obtain ⟨d', e1, e2⟩ := e
      cases e2
      obtain ⟨_, v, k1, k2⟩ := zip_lookup x hr e1
      exact ⟨v, k1, k2.carry c (Nat.le_add_right _ _)⟩
    · intro x ds' e
      simp only [Option.map_eq_some_iff] at e
      obtain ⟨d', _, e2⟩ := e
      cases e2
    · intro x y ds' es b e
      simp only [Option.map_eq_some_iff] at e
      obtain ⟨d', _, e2⟩ := e
      cases e2
    · intro x v e
      simp only [Option.map_eq_some_iff] at e
      obtain ⟨d', e1, _⟩ := e
      exact hloc x (zip_lookup x hr e1).1
  have B : OwnB base (fun y => ((ps.zip ds).reverse.lookup y).map .dat) (fun x => (ps.zip vs).reverse.lookup x) := by
    intro x ds' b e
    simp only [Option.map_eq_some_iff] at e
    obtain ⟨d', _, e2⟩ := e
    cases e2
  refine (ex_all X PassesOwn.leaving q).2 body hsto ⟨O, [], []⟩ _ _ _ _ _ S B ?_
  cases hq : pex C q (fun y => ((ps.zip ds).reverse.lookup y).map .dat) with
  | bad => rw [hq] at p; exact p.elim
  | exc =>
    rw [hq] at p
    intro e h' tk' ht x
    refine leaving_ok (L := s.heap.objs.size) X.fr rfl x fun h'' x' => ?_
    exact p e h'' tk' (Nat.le_trans (Nat.le_add_right _ _) ht) x'
  | ok r =>
    rw [hq] at p
    obtain ⟨fl, ρ'⟩ := r
    intro f' h' tk' m' O' ht S' _ hf
    have g : Grow base s h' tk' := ⟨S'.ext, S'.bs, Nat.le_trans (Nat.le_add_right _ _) ht⟩
    cases fl with
    | next => cases f' <;> first | exact hf.elim | exact p .none h' tk' g rfl
    | brk => exact p.elim
    | cont => exact p.elim
    | ret d =>
      cases f' <;> first | exact hf.elim | skip
      exact p _ h' tk' g (Rep.carry (.less fun a ha => .inl (S'.out a ha)) (Nat.le_refl _) hf)
end
end Mine

open PySem
set_option maxRecDepth 100000
set_option maxHeartbeats 4000000
namespace Mine

/-- a text of code points -/
abbrev tx (l : List Nat) : Str := ⟨l.toArray⟩
theorem tx_self (x : Str) : tx x.cps.toList = x := by
  obtain ⟨a⟩ := x
  simp
noncomputable def ch (c : Nat) : PyData := .str (tx [c])
noncomputable def txd (l : List Nat) : PyData := .str (tx l)
noncomputable def rowd (r : List (List Nat)) : PyData := .list (r.map txd)
noncomputable def tabd (R : List (List (List Nat))) : PyData := .list (R.map rowd)

noncomputable def look {β : Type} : List (String × β) → Str → Option β
  | [], _ => none
  | (k, v) :: r, x => if x = Str.ofString k then some v else look r x
noncomputable def mkC (G : List (String × PyData)) (F : List (String × (List PyData → Out PyData))) : PC :=
  ⟨look G, look F, LIM⟩
theorem look_nil {β : Type} (x : Str) : look ([] : List (String × β)) x = none := rfl
theorem look_cons {β : Type} (k : String) (v : β) (r : List (String × β)) (x : Str) : look ((k, v) :: r) x = if x = Str.ofString k then some v else look r x := rfl
theorem look_hit {β : Type} (k : String) (v : β) (r : List (String × β)) : look ((k, v) :: r) (Str.ofString k) = some v := if_pos rfl
theorem look_ne {β : Type} {k x : String} (v : β) (r : List (String × β)) (h : ¬ x = k) : look ((k, v) :: r) (Str.ofString x) = look r (Str.ofString x) := if_neg (by rw [ofS_inj]; exact h)

theorem beq_dec {α : Type} [BEq α] [LawfulBEq α] [DecidableEq α] (x y : α) : (x == y) = decide (x = y) := by
  by_cases h : x = y
  · subst h; simp
  · rw [decide_eq_false h, beq_eq_false_iff_ne]; exact h
theorem bne_dec {α : Type} [BEq α] [LawfulBEq α] [DecidableEq α] (x y : α) : (x != y) = decide (x ≠ y) := by
  unfold bne; rw [beq_dec, decide_not]
theorem pcmp_eq_s (x y : Str) : pcmp .Eq (.str x) (.str y) = .ok (.bool (decide (x = y))) := by rw [← beq_dec]; rfl
theorem pcmp_ne_s (x y : Str) : pcmp .NotEq (.str x) (.str y) = .ok (.bool (decide (x ≠ y))) := by rw [← bne_dec]; rfl
theorem pcmp_eq_i (x y : Int) : pcmp .Eq (.int x) (.int y) = .ok (.bool (decide (x = y))) := by rw [← beq_dec]; rfl
theorem pcmp_ne_i (x y : Int) : pcmp .NotEq (.int x) (.int y) = .ok (.bool (decide (x ≠ y))) := by rw [← bne_dec]; rfl
theorem pcmp_lt (x y : Int) : pcmp .Lt (.int x) (.int y) = .ok (.bool (decide (x < y))) := rfl
theorem pcmp_gt (x y : Int) : pcmp .Gt (.int x) (.int y) = .ok (.bool (decide (y < x))) := rfl
theorem pcmp_ge (x y : Int) : pcmp .GtE (.int x) (.int y) = .ok (.bool (decide (y ≤ x))) := rfl
theorem pbin_add_s (x y : Str) : pbin .Add (.str x) (.str y) = if x.length + y.length ≤ LIM then .ok (.str (x ++ y)) else .bad := rfl
theorem pbin_add_i (x y : Int) : pbin .Add (.int x) (.int y) = .ok (.int (x + y)) := rfl
theorem pbin_add_l (x y : List PyData) : pbin .Add (.list x) (.list y) = if x.length + y.length ≤ LIM then .ok (.list (x ++ y)) else .bad := rfl
theorem pbin_sub (x y : Int) : pbin .Sub (.int x) (.int y) = .ok (.int (x - y)) := rfl
theorem pbin_mod (x y : Int) : pbin .Mod (.int x) (.int y) = if y = 0 then .bad else .ok (.int (x.fmod y)) := rfl
theorem pbin_fdiv (x y : Int) : pbin .FloorDiv (.int x) (.int y) = if 0 < y ∧ y < 1000 ∧ 0 ≤ x ∧ x < 1000000 then .ok (.int (x.fdiv y)) else .bad := rfl
theorem pbool_b (b : Bool) : pbool? (.bool b) = .ok b := rfl
theorem pint_i (i : Int) : pint? (.int i) = .ok i := rfl
theorem pstr_s (x : Str) : pstr? (.str x) = .ok x := rfl
theorem plen_s (x : Str) : plen (.str x) = if x.length ≤ LIM then .ok (.int x.length) else .bad := rfl
theorem plen_l (x : List PyData) : plen (.list x) = if x.length ≤ LIM then .ok (.int x.length) else .bad := rfl
theorem plen_t (x : List PyData) : plen (.tuple x) = if x.length ≤ LIM then .ok (.int x.length) else .bad := rfl
theorem plist_l (x : List PyData) : plist (.list x) = if x.length ≤ LIM then .ok (.list x) else .bad := rfl
theorem piter_l (x : List PyData) : piter (.list x) = .ok x := rfl
theorem piter_t (x : List PyData) : piter (.tuple x) = .ok x := rfl
theorem piter_s (x : Str) : piter (.str x) = .ok (signsD x) := rfl
theorem prange_i (n : Int) : prange (.int n) = if 0 ≤ n ∧ n ≤ 1000000 then .ok (rangeD n) else .bad := rfl

section
variable {α β : Type} {C : PC} {ρ : PE}
theorem ok_bind (a : α) (f : α → Out β) : (Out.ok a).bind f = f a := rfl
theorem exc_bind (f : α → Out β) : (Out.exc : Out α).bind f = .exc := rfl
theorem bad_bind (f : α → Out β) : (Out.bad : Out α).bind f = .bad := rfl
theorem ite_bind (c : Prop) [Decidable c] (a b : Out α) (f : α → Out β) : (if c then a else b).bind f = if c then a.bind f else b.bind f := by split <;> rfl
theorem upd_app (x : Str) (v : LV) (y : Str) : upd ρ x v y = if y = x then some v else ρ y := rfl
theorem upd_eq (x : String) (v : LV) : upd ρ (Str.ofString x) v (Str.ofString x) = some v := if_pos rfl
theorem upd_ne {a b : String} (v : LV) (h : ¬ b = a) : upd ρ (Str.ofString a) v (Str.ofString b) = ρ (Str.ofString b) := if_neg (by rw [ofS_inj]; exact h)
theorem pvar_dat (d : PyData) : pvar (some (.dat d)) = .ok d := rfl
theorem ptab_some (d : PyData) : ptab (some d) = .ok d := rfl
theorem plenO_dat (d : PyData) : plenO (some (.dat d)) = plen d := rfl
theorem plenO_own (ds : List PyData) : plenO (some (.own ds)) = if ds.length ≤ LIM then .ok (.int ds.length) else .bad := rfl
theorem pfn_some (g : List PyData → Out PyData) (o : Out (List PyData)) : pfn (some g) o = o.bind g := rfl
theorem pstrV_str (x : Str) : pstrV (some (.dat (.str x))) = .ok x := rfl
theorem pev_con (d : PyData) : pev C ρ (.con d) = .ok d := rfl
theorem pev_var (x : String) : pev C ρ (.var x) = pvar (ρ (Str.ofString x)) := rfl
theorem pev_tab (x : String) : pev C ρ (.tab x) = ptab (C.G (Str.ofString x)) := rfl
theorem pev_bin (op : Operator) (l r : QE) : pev C ρ (.bin op l r) = (pev C ρ l).bind fun a => (pev C ρ r).bind fun b => pbin op a b := rfl
theorem pev_neg (e : QE) : pev C ρ (.neg e) = (pev C ρ e).bind fun a => (pint? a).bind fun i => .ok (.int (-i)) := rfl
theorem pev_not (e : QE) : pev C ρ (.not e) = (pev C ρ e).bind fun a => (pbool? a).bind fun b => .ok (.bool (!b)) := rfl
theorem pev_bo (op : BoolOp) (es : QE) : pev C ρ (.bo op es) = pbo C ρ op es := rfl
theorem pev_cmp (op : CmpOp) (l r : QE) : pev C ρ (.cmp op l r) = (pev C ρ l).bind fun a => (pev C ρ r).bind fun b => pcmp op a b := rfl
theorem pev_ty (e : QE) (t : String) : pev C ρ (.ty e t) = (pev C ρ e).bind fun d => isType d (Str.ofString t) := rfl
theorem pev_tup (es : QE) : pev C ρ (.tup es) = (pevs C ρ es).bind fun ds => if ds.length ≤ LIM then .ok (.tuple ds) else .bad := rfl
theorem pev_lst (es : QE) : pev C ρ (.lst es) = (pevs C ρ es).bind fun ds => if ds.length ≤ LIM then .ok (.list ds) else .bad := rfl
theorem pev_sub (v i : QE) : pev C ρ (.sub v i) = (pev C ρ v).bind fun a => (pev C ρ i).bind fun b => (pint? b).bind fun i => pitem a i := rfl
theorem pev_cut (v lo hi : QE) : pev C ρ (.cut v lo hi) = (pev C ρ v).bind fun a => (peo C ρ lo).bind fun i => (peo C ρ hi).bind fun j => pcut a i j := rfl
theorem pev_meth (m : MM) (o e : QE) : pev C ρ (.meth m o e) = (pev C ρ o).bind fun a => (pstr? a).bind fun x => (pev C ρ e).bind fun d => pmeth m x d := rfl
theorem pev_replC (o y : QE) (c : Str) : pev C ρ (.replC o y c) = (pev C ρ o).bind fun a => (pstr? a).bind fun x => (pev C ρ y).bind fun b => (pstr? b).bind fun yy => prepl x yy c := rfl
theorem pev_replV (o : QE) (c : Str) (z : String) : pev C ρ (.replV o c z) = (pstrV (ρ (Str.ofString z))).bind fun zz => (pev C ρ o).bind fun a => (pstr? a).bind fun x => prepl x c zz := rfl
theorem pev_replD (o y : QE) (z₁ z₂ : String) : pev C ρ (.replD o y z₁ z₂) = (pstrV (ρ (Str.ofString z₁))).bind fun s1 => (pstrV (ρ (Str.ofString z₂))).bind fun s2 =>
    if 0 < s1.length ∧ 0 < s2.length ∧ s1.length + s2.length ≤ LIM then
      (pev C ρ o).bind fun a => (pstr? a).bind fun x => (pev C ρ y).bind fun b => (pstr? b).bind fun yy => prepl x yy (s1 ++ s2)
    else .bad := rfl
theorem pev_call (f : String) (es : QE) : pev C ρ (.call f es) = pfn (C.F (Str.ofString f)) (pevs C ρ es) := rfl
theorem pev_len (e : QE) : pev C ρ (.len e) = (pev C ρ e).bind plen := rfl
theorem pev_lenO (x : String) : pev C ρ (.lenO x) = plenO (ρ (Str.ofString x)) := rfl
theorem pev_lis (e : QE) : pev C ρ (.lis e) = (pev C ρ e).bind plist := rfl
theorem pevs_nil : pevs C ρ .nil = .ok [] := rfl
theorem pevs_cons (e r : QE) : pevs C ρ (.cons e r) = (pev C ρ e).bind fun d => (pevs C ρ r).bind fun ds => .ok (d :: ds) := rfl
theorem peo_no : peo C ρ .no = .ok none := rfl
theorem peo_opt (e : QE) : peo C ρ (.opt e) = (pev C ρ e).bind fun d => (pint? d).bind fun i => .ok (some i) := rfl
theorem pbo_or (e e' r : QE) : pbo C ρ .Or (.cons e (.cons e' r)) = (pev C ρ e).bind fun d => (pbool? d).bind fun b => if b = true then .ok (.bool true) else pbo C ρ .Or (.cons e' r) := by
  show (pev C ρ e).bind _ = (pev C ρ e).bind _
  congr 1; funext d; congr 1; funext b; cases b <;> rfl
theorem pbo_and (e e' r : QE) : pbo C ρ .And (.cons e (.cons e' r)) = (pev C ρ e).bind fun d => (pbool? d).bind fun b => if b = true then pbo C ρ .And (.cons e' r) else .ok (.bool false) := by
  show (pev C ρ e).bind _ = (pev C ρ e).bind _
  congr 1; funext d; congr 1; funext b; cases b <;> rfl
theorem pbo_one (op : BoolOp) (e : QE) : pbo C ρ op (.cons e .nil) = (pev C ρ e).bind fun d => (pbool? d).bind fun b => .ok (.bool b) := by
  show (pev C ρ e).bind _ = (pev C ρ e).bind _
  congr 1; funext d; congr 1; funext b; cases op <;> cases b <;> rfl
theorem ptest_eq (e : QE) : ptest C ρ e = (pev C ρ e).bind pbool? := rfl
theorem frz1_own (x : Str) (ds : List PyData) : frz1 ρ x (some (.own ds)) = upd ρ x (.dat (.list ds)) := rfl
theorem frz1_dat (x : Str) (d : PyData) : frz1 ρ x (some (.dat d)) = ρ := rfl
theorem papp_own (l : Str) (o : Out PyData) (ds : List PyData) : papp ρ l o (some (.own ds)) = o.bind fun d => if ds.length < LIM then .ok (.next, upd ρ l (.own (ds ++ [d]))) else .bad := rfl
theorem pcop_list (x : Str) (ds : List PyData) : pcop ρ x (.list ds) = if ds.length ≤ LIM ∧ ds.all isShortL = true then .ok (.next, upd ρ x (.dat (.list ds))) else .bad := rfl
theorem ptry_ok (x y : Str) (c d : PyData) : ptry ρ x y c (.ok d) = .ok (.next, upd ρ x (.dat d)) := rfl
theorem ptry_exc (x y : Str) (c : PyData) : ptry ρ x y c .exc = .ok (.next, upd ρ y (.dat c)) := rfl
theorem ptry_bad (x y : Str) (c : PyData) : ptry ρ x y c .bad = .bad := rfl
theorem pex_ret (e : QE) : pex C (.ret e) ρ = (pev C ρ e).bind fun d => .ok (.ret d, ρ) := rfl
theorem pex_cont : pex C .cont ρ = .ok (.cont, ρ) := rfl
theorem pex_asg (x : String) (e : QE) : pex C (.asg x e) ρ = (pev C ρ e).bind fun d => .ok (.next, upd ρ (Str.ofString x) (.dat d)) := rfl
theorem pex_own (x : String) (es : QE) : pex C (.own x es) ρ = (pevs C ρ es).bind fun ds => if ds.length ≤ LIM then .ok (.next, upd ρ (Str.ofString x) (.own ds)) else .bad := rfl
theorem pex_pop (x l : String) : pex C (.pop x l) ρ = ppop ρ (Str.ofString x) (Str.ofString l) (ρ (Str.ofString l)) := rfl
theorem pex_cop (x y : String) (e : QE) : pex C (.cop x e y) ρ = (pev C ρ e).bind fun d => pcop ρ (Str.ofString x) d := rfl
theorem pex_app (l : String) (e : QE) : pex C (.app l e) ρ = papp ρ (Str.ofString l) (pev C ρ e) (ρ (Str.ofString l)) := rfl
theorem pex_raise : pex C .raise ρ = .exc := rfl
theorem pex_try (x y : String) (e : QE) (c : PyData) : pex C (.trye x e y c) ρ = ptry ρ (Str.ofString x) (Str.ofString y) c (pev C ρ e) := rfl
theorem pex_frz (x : String) (s : QS) : pex C (.frz x s) ρ = pex C s (frz1 ρ (Str.ofString x) (ρ (Str.ofString x))) := rfl
theorem pex_nil : pex C .nil ρ = .ok (.next, ρ) := rfl

/-- the parameters, one on the other -/
noncomputable def bindPE : List (Str × PyData) → PE → PE
  | [], ρ => ρ
  | p :: r, ρ => bindPE r (upd ρ p.1 (.dat p.2))
theorem bindPE_nil : bindPE [] ρ = ρ := rfl
theorem bindPE_cons (x : Str) (d : PyData) (r : List (Str × PyData)) : bindPE ((x, d) :: r) ρ = bindPE r (upd ρ x (.dat d)) := rfl
theorem bindPE_eq : ∀ (l : List (Str × PyData)) (ρ : PE) (y : Str), bindPE l ρ y = match l.reverse.lookup y with | some d => some (.dat d) | none => ρ y
  | [], _, _ => rfl
  | p :: r, ρ, y => by
    rw [bindPE, bindPE_eq r, List.reverse_cons, lookup_app]
    cases r.reverse.lookup y with
    | some d => rfl
    | none =>
      simp only [upd_app]
      by_cases h : y = p.1
      · simp [h]
      · have : (y == p.1) = false := by rw [beq_eq_false_iff_ne]; exact h
        simp [h, this]
noncomputable def none0 : PE := fun _ => none
theorem none0_app (x : Str) : none0 x = none := rfl
theorem pcall_eq (C : PC) (ps : List Str) (body : QS) (ds : List PyData) (h : ps.length = ds.length) :
    pcall C ps body ds = (pex C body (bindPE (ps.zip ds) none0)).bind fun r => match r.1 with | .ret d => .ok d | .next => .ok .none | _ => .bad := by
  unfold pcall
  rw [if_pos h]
  congr 1
  congr 1
  funext y
  rw [bindPE_eq]
  cases (ps.zip ds).reverse.lookup y <;> rfl
end

section
variable {C : PC} {ρ : PE} {t : List String} {B : PE → Out (Fl × PE)} {ds : List PyData} {r b o : QS} {q : QE} {n : Nat} {T : PE → Out Bool}
noncomputable def seqk (C : PC) (r : QS) (x : Out (Fl × PE)) : Out (Fl × PE) := x.bind (pseqk (pex C r))
theorem pex_seq (s : QS) : pex C (.seq s r) ρ = seqk C r (pex C s ρ) := rfl
theorem seqk_next : seqk C r (.ok (.next, ρ)) = pex C r ρ := rfl
theorem seqk_brk : seqk C r (.ok (.brk, ρ)) = .ok (.brk, ρ) := rfl
theorem seqk_cont : seqk C r (.ok (.cont, ρ)) = .ok (.cont, ρ) := rfl
theorem seqk_ret (d : PyData) : seqk C r (.ok (.ret d, ρ)) = .ok (.ret d, ρ) := rfl
theorem seqk_exc : seqk C r .exc = .exc := rfl
theorem seqk_bad : seqk C r .bad = .bad := rfl
theorem seqk_ite (c : Prop) [Decidable c] (x y : Out (Fl × PE)) : seqk C r (if c then x else y) = if c then seqk C r x else seqk C r y := by split <;> rfl
noncomputable def ifk (C : PC) (b o : QS) (ρ : PE) (x : Out Bool) : Out (Fl × PE) := x.bind fun c => if c = true then pex C b ρ else pex C o ρ
theorem pex_if : pex C (.ite q b o) ρ = ifk C b o ρ (ptest C ρ q) := rfl
theorem ifk_true : ifk C b o ρ (.ok true) = pex C b ρ := rfl
theorem ifk_false : ifk C b o ρ (.ok false) = pex C o ρ := rfl
theorem ifk_dec (c : Prop) [Decidable c] : ifk C b o ρ (.ok (decide c)) = if c then pex C b ρ else pex C o ρ := by
  by_cases h : c <;> simp [h, ifk, Out.bind]
theorem ifk_not (c : Bool) : ifk C b o ρ (.ok (!c)) = ifk C o b ρ (.ok c) := by cases c <;> rfl
theorem ifk_exc : ifk C b o ρ .exc = .exc := rfl
theorem ifk_bad : ifk C b o ρ .bad = .bad := rfl
theorem ifk_ite (c : Prop) [Decidable c] (x y : Out Bool) : ifk C b o ρ (if c then x else y) = if c then ifk C b o ρ x else ifk C b o ρ y := by split <;> rfl
noncomputable def fink (x : Out (Fl × PE)) : Out PyData := x.bind fun r => match r.1 with | .ret d => .ok d | .next => .ok .none | _ => .bad
theorem pcall_fin (C : PC) (ps : List Str) (body : QS) (ds : List PyData) (h : ps.length = ds.length) : pcall C ps body ds = fink (pex C body (bindPE (ps.zip ds) none0)) := pcall_eq C ps body ds h
theorem fink_ret (d : PyData) : fink (.ok (.ret d, ρ)) = .ok d := rfl
theorem fink_next : fink (.ok (.next, ρ)) = .ok .none := rfl
theorem fink_exc : fink .exc = .exc := rfl
theorem fink_bad : fink .bad = .bad := rfl
theorem fink_ite (c : Prop) [Decidable c] (x y : Out (Fl × PE)) : fink (if c then x else y) = if c then fink x else fink y := by split <;> rfl
noncomputable def fork (t : List String) (B : PE → Out (Fl × PE)) (ds : List PyData) (x : Out (Fl × PE)) : Out (Fl × PE) := x.bind fun r => match r.1 with
      | .next => pfor t B ds r.2
      | .cont => pfor t B ds r.2
      | .brk => .ok (.next, r.2)
      | .ret d => .ok (.ret d, r.2)
theorem pfor_nil : pfor t B [] ρ = .ok (.next, ρ) := rfl
theorem pfor_name (x : String) (d : PyData) : pfor [x] B (d :: ds) ρ = fork [x] B ds (B (upd ρ (Str.ofString x) (.dat d))) := rfl
theorem fork_next : fork t B ds (.ok (.next, ρ)) = pfor t B ds ρ := rfl
theorem fork_cont : fork t B ds (.ok (.cont, ρ)) = pfor t B ds ρ := rfl
theorem fork_ret (d : PyData) : fork t B ds (.ok (.ret d, ρ)) = .ok (.ret d, ρ) := rfl
theorem fork_exc : fork t B ds .exc = .exc := rfl
theorem fork_bad : fork t B ds .bad = .bad := rfl
theorem fork_ite (c : Prop) [Decidable c] (x y : Out (Fl × PE)) : fork t B ds (if c then x else y) = if c then fork t B ds x else fork t B ds y := by split <;> rfl
noncomputable def whk (T : PE → Out Bool) (B : PE → Out (Fl × PE)) (n : Nat) (x : Out (Fl × PE)) : Out (Fl × PE) := x.bind fun r => match r.1 with
      | .next => pwhile T B n r.2
      | .cont => pwhile T B n r.2
      | .brk => .ok (.next, r.2)
      | .ret d => .ok (.ret d, r.2)
theorem pwhile_true (h : T ρ = .ok true) : pwhile T B (n + 1) ρ = whk T B n (B ρ) := by rw [pwhile, h]; rfl
theorem pwhile_false (h : T ρ = .ok false) : pwhile T B (n + 1) ρ = .ok (.next, ρ) := by rw [pwhile, h]; rfl
theorem whk_next : whk T B n (.ok (.next, ρ)) = pwhile T B n ρ := rfl
theorem whk_cont : whk T B n (.ok (.cont, ρ)) = pwhile T B n ρ := rfl
theorem whk_exc : whk T B n .exc = .exc := rfl
theorem mkC_G (G F) : (mkC G F).G = look G := rfl
theorem mkC_F (G F) : (mkC G F).F = look F := rfl
theorem mkC_fuel (G F) : (mkC G F).fuel = LIM := rfl
end

/-- loops, as the evaluator meets them -/
noncomputable def wh (C : PC) (t : QE) (b : QS) (n : Nat) (ρ : PE) : Out (Fl × PE) := pwhile (fun ρ => ptest C ρ t) (pex C b) n ρ
noncomputable def wk (C : PC) (t : QE) (b : QS) (n : Nat) (x : Out (Fl × PE)) : Out (Fl × PE) := whk (fun ρ => ptest C ρ t) (pex C b) n x
noncomputable def fr (C : PC) (t : List String) (b : QS) (ds : List PyData) (ρ : PE) : Out (Fl × PE) := pfor t (pex C b) ds ρ
noncomputable def fk (C : PC) (t : List String) (b : QS) (ds : List PyData) (x : Out (Fl × PE)) : Out (Fl × PE) := fork t (pex C b) ds x
noncomputable def fq (C : PC) (t : List String) (b : QS) (ρ : PE) (x : Out (List PyData)) : Out (Fl × PE) := x.bind fun ds => fr C t b ds ρ
section
variable {C : PC} {ρ : PE} {t : List String} {q : QE} {ds : List PyData} {b : QS} {n : Nat}
theorem pex_while : pex C (.wh q b) ρ = wh C q b C.fuel ρ := rfl
theorem wh_true (h : ptest C ρ q = .ok true) : wh C q b (n + 1) ρ = wk C q b n (pex C b ρ) := pwhile_true h
theorem wh_false (h : ptest C ρ q = .ok false) : wh C q b (n + 1) ρ = .ok (.next, ρ) := pwhile_false h
theorem wk_next : wk C q b n (.ok (.next, ρ)) = wh C q b n ρ := rfl
theorem wk_cont : wk C q b n (.ok (.cont, ρ)) = wh C q b n ρ := rfl
theorem wk_exc : wk C q b n .exc = .exc := rfl
theorem pex_frn (x : String) : pex C (.frn x q b) ρ = fq C [x] b ρ ((pev C ρ q).bind piter) := rfl
theorem pex_rng (x : String) : pex C (.rng x q b) ρ = fq C [x] b ρ ((pev C ρ q).bind prange) := rfl
theorem fq_ok : fq C t b ρ (.ok ds) = fr C t b ds ρ := rfl
theorem fq_exc : fq C t b ρ .exc = .exc := rfl
theorem fr_nil : fr C t b [] ρ = .ok (.next, ρ) := rfl
theorem fr_name (x : String) (d : PyData) : fr C [x] b (d :: ds) ρ = fk C [x] b ds (pex C b (upd ρ (Str.ofString x) (.dat d))) := rfl
theorem fk_next : fk C t b ds (.ok (.next, ρ)) = fr C t b ds ρ := rfl
theorem fk_cont : fk C t b ds (.ok (.cont, ρ)) = fr C t b ds ρ := rfl
theorem fk_ret (d : PyData) : fk C t b ds (.ok (.ret d, ρ)) = .ok (.ret d, ρ) := rfl
theorem fk_exc : fk C t b ds .exc = .exc := rfl
theorem fk_ite (c : Prop) [Decidable c] (x y : Out (Fl × PE)) : fk C t b ds (if c then x else y) = if c then fk C t b ds x else fk C t b ds y := by split <;> rfl
end

theorem ch_eq (c d : Nat) : (tx [c] == tx [d]) = decide (c = d) := by
  by_cases h : c = d
  · subst h; simp
  · rw [decide_eq_false h, beq_eq_false_iff_ne]
    intro e
    injection e with e
    simp at e
    exact h e
theorem tx_eq (a b : List Nat) : (tx a == tx b) = decide (a = b) := by
  by_cases h : a = b
  · subst h; simp
  · rw [decide_eq_false h, beq_eq_false_iff_ne]
    intro e
    injection e with e
    exact h (by simpa using e)
theorem tx_inj (a b : List Nat) : (tx a = tx b) = (a = b) := by
  apply propext
  constructor
  · intro e
    injection e with e
    simpa using e
  · intro e; rw [e]
theorem tx_len (l : List Nat) : (tx l).length = l.length := by simp [Str.length]
theorem tx_app (a b : List Nat) : tx a ++ tx b = tx (a ++ b) := by
  show Str.mk (a.toArray ++ b.toArray) = _
  simp
theorem s13 : Str.ofString "\r" = tx [13] := by rw [Str.ofString_eq_toList]; rfl
theorem s10 : Str.ofString "\n" = tx [10] := by rw [Str.ofString_eq_toList]; rfl
theorem s1310 : Str.ofString "\r\n" = tx [13, 10] := by rw [Str.ofString_eq_toList]; rfl
theorem s0 : Str.ofString "" = tx [] := by rw [Str.ofString_eq_toList]; rfl
theorem eq13 (x : List Nat) : (tx x = Str.ofString "\r") = (x = [13]) := by rw [s13, tx_inj]
theorem eq10 (x : List Nat) : (tx x = Str.ofString "\n") = (x = [10]) := by rw [s10, tx_inj]
theorem eq1310 (x : List Nat) : (tx x = Str.ofString "\r\n") = (x = [13, 10]) := by rw [s1310, tx_inj]
theorem eq0 (x : List Nat) : (tx x = Str.ofString "") = (x = []) := by rw [s0, tx_inj]
theorem ofS_tx (s : String) : Str.ofString s = tx (s.toList.map Char.toNat) := by rw [Str.ofString_eq_toList]
theorem ofS_beq (a b : String) : (Str.ofString a == Str.ofString b) = decide (a = b) := by
  by_cases h : a = b
  · subst h; simp
  · rw [decide_eq_false h, beq_eq_false_iff_ne, ne_eq, ofS_inj]; exact h

theorem pitem_str (l : List Nat) (k : Nat) (c : Nat) (h : l[k]? = some c) (hk : k < 1000000000) : pitem (.str (tx l)) (k : Int) = .ok (ch c) := by
  obtain ⟨h1, _⟩ := List.getElem?_eq_some_iff.mp h
  have e : seqIndex? (k : Int) (tx l).length = some k := by
    rw [tx_len]
    unfold seqIndex?
    simp; omega
  have e2 : (tx l).cps[k]? = some c := by simpa using h
  unfold pitem
  rw [if_pos (by omega)]
  dsimp only
  rw [e, Option.bind_some, e2]
  rfl
theorem pitem_tuple (ds : List PyData) (k : Nat) (d : PyData) (h : ds[k]? = some d) (hk : k < 1000000000) : pitem (.tuple ds) (k : Int) = .ok d := by
  obtain ⟨h1, _⟩ := List.getElem?_eq_some_iff.mp h
  have e : seqIndex? (k : Int) ds.length = some k := by
    unfold seqIndex?
    simp; omega
  unfold pitem
  rw [if_pos (by omega)]
  dsimp only
  rw [e, Option.bind_some, h]
theorem pitem_list (ds : List PyData) (k : Nat) (d : PyData) (h : ds[k]? = some d) (hk : k < 1000000000) : pitem (.list ds) (k : Int) = .ok d := by
  obtain ⟨h1, _⟩ := List.getElem?_eq_some_iff.mp h
  have e : seqIndex? (k : Int) ds.length = some k := by
    unfold seqIndex?
    simp; omega
  unfold pitem
  rw [if_pos (by omega)]
  dsimp only
  rw [e, Option.bind_some, h]

theorem strs_txd (r : List (List Nat)) : strs? (r.map txd) = some (r.map tx) := by
  induction r with
  | nil => rfl
  | cons a r ih => simp [List.map_cons, strs?, txd, ih]
theorem strs_ch (r : List Nat) : strs? (r.map ch) = some (r.map fun c => tx [c]) := by
  induction r with
  | nil => rfl
  | cons a r ih => simp [List.map_cons, strs?, ch, ih]
/-- texts with a separator between -/
noncomputable def joinL (z : List Nat) : List (List Nat) → List Nat
  | [] => []
  | [x] => x
  | x :: y :: r => x ++ z ++ joinL z (y :: r)
theorem join_tx (z : List Nat) : ∀ r : List (List Nat), Str.join (tx z) (r.map tx) = tx (joinL z r)
  | [] => rfl
  | [x] => rfl
  | x :: y :: r => by
    show (tx x ++ tx z) ++ Str.join (tx z) ((y :: r).map tx) = _
    rw [join_tx z (y :: r), tx_app, tx_app]; rfl
theorem joinL_nil : ∀ r : List (List Nat), joinL [] r = r.flatten
  | [] => rfl
  | [x] => by simp [joinL]
  | x :: y :: r => by rw [joinL, joinL_nil (y :: r)]; simp
theorem join_ch (r : List Nat) : Str.join (tx []) (r.map fun c => tx [c]) = tx r := by
  have : (r.map fun c => tx [c]) = (r.map fun c => [c]).map tx := by rw [List.map_map]; rfl
  rw [this, join_tx, joinL_nil]
  congr 2
  induction r with
  | nil => rfl
  | cons a r ih => simp [ih]
theorem pmeth_join_ch (r : List Nat) (h : r.length ≤ LIM) : pmeth .join (tx []) (.list (r.map ch)) = .ok (txd r) := by
  unfold pmeth
  dsimp only
  rw [strs_ch]
  dsimp only
  rw [if_pos, join_ch]; rfl
  have : ((List.map (fun c => tx [c]) r).map (·.length)).sum = r.length := by
    clear h
    induction r with
    | nil => rfl
    | cons a r ih => simp only [List.map_cons, List.sum_cons, List.length_cons, ih, tx_len, List.length_nil]; omega
  rw [this, tx_len]; simpa using h
theorem pmeth_join (z : List Nat) (r : List (List Nat)) (h : (r.map List.length).sum + r.length * z.length ≤ LIM) : pmeth .join (tx z) (.list (r.map txd)) = .ok (txd (joinL z r)) := by
  unfold pmeth
  dsimp only
  rw [strs_txd]
  dsimp only
  rw [if_pos, join_tx]; rfl
  have : ((List.map tx r).map (·.length)).sum = (r.map List.length).sum := by
    rw [List.map_map]
    congr 1
  rw [this, tx_len]; simpa using h
end Mine

open PySem
set_option maxRecDepth 100000
set_option maxHeartbeats 4000000
namespace Mine

inductive PS where
  | start | inq | plain | aft
deriving DecidableEq
noncomputable def PS.nm : PS → Str
  | .start => Str.ofString "start"
  | .inq => Str.ofString "in"
  | .plain => Str.ofString "plain"
  | .aft => Str.ofString "after"
abbrev Tab := List (List (List Nat))

/-- one turn of the reader: the sign, the next one; the number of signs taken -/
noncomputable def step (d q : Nat) (st : PS) (f : List Nat) (r : List (List Nat)) (R : Tab) (c : Nat) (nx : Option Nat) : Option (PS × List Nat × List (List Nat) × Tab × Nat) :=
  if st = .inq then
    if c = q then (if nx = some q then some (.inq, f ++ [q], r, R, 2) else some (.aft, f, r, R, 1))
    else some (.inq, f ++ [c], r, R, 1)
  else if c = d then some (.start, [], r ++ [f], R, 1)
  else if c = 13 ∨ c = 10 then (if c = 13 ∧ nx = some 10 then some (.start, [], [], R ++ [r ++ [f]], 2) else some (.start, [], [], R ++ [r ++ [f]], 1))
  else if st = .aft then none
  else if c = q then (if st = .start then some (.inq, f, r, R, 1) else none)
  else some (.plain, f ++ [c], r, R, 1)

theorem step_le {d q st f r R c nx st' f' r' R' j} (h : step d q st f r R c nx = some (st', f', r', R', j)) : 1 ≤ j ∧ (j = 1 ∨ nx.isSome = true ∧ j = 2) := by
  unfold step at h
  repeat' split at h
  all_goals first | cases h; done | skip
  all_goals (simp only [Option.some.injEq, Prod.mk.injEq] at h; obtain ⟨_, _, _, _, rfl⟩ := h; simp_all)

/-- the reader's loop -/
noncomputable def run (d q : Nat) (st : PS) (f : List Nat) (r : List (List Nat)) (R : Tab) : List Nat → Option (PS × List Nat × List (List Nat) × Tab)
  | [] => some (st, f, r, R)
  | c :: t => match step d q st f r R c t.head? with
    | none => none
    | some (st', f', r', R', j) => if j = 2 then run d q st' f' r' R' t.tail else run d q st' f' r' R' t
termination_by l => l.length
decreasing_by
  all_goals simp_wf
  omega

noncomputable def fin (x : Option (PS × List Nat × List (List Nat) × Tab)) : Option Tab := match x with
  | none => none
  | some (st, f, r, R) => if st = .inq then none else if r ≠ [] ∨ st ≠ .start then some (R ++ [r ++ [f]]) else some R
/-- what the reader says of a text -/
noncomputable def parse (d q : Nat) (t : List Nat) : Option Tab := fin (run d q .start [] [] [] t)
end Mine

open PySem
set_option maxRecDepth 100000
set_option maxHeartbeats 4000000
namespace Mine

noncomputable def special (d q c : Nat) : Bool := decide (c = d ∨ c = q ∨ c = 13 ∨ c = 10)
noncomputable def needs (d q : Nat) (f : List Nat) : Bool := f.any (special d q)
noncomputable def dbl (q : Nat) (f : List Nat) : List Nat := f.flatMap fun c => if c = q then [q, q] else [c]
noncomputable def quoted (q : Nat) (f : List Nat) : List Nat := q :: dbl q f ++ [q]
noncomputable def fmt (d q : Nat) (f : List Nat) : List Nat := if needs d q f = true then quoted q f else f
noncomputable def fmtRow (d q : Nat) (r : List (List Nat)) : List Nat := joinL [d] (r.map (fmt d q))
noncomputable def fmtTab (d q : Nat) (nl : List Nat) (R : Tab) : Option (List Nat) := if R.any (fun r => decide (r = [])) = true then none else some (R.flatMap fun r => fmtRow d q r ++ nl)

theorem signsD_tx (f : List Nat) : signsD (tx f) = f.map ch := by
  unfold signsD ch
  simp
theorem dbl_cons (q c : Nat) (f : List Nat) : dbl q (c :: f) = (if c = q then [q, q] else [c]) ++ dbl q f := by simp [dbl]
theorem dbl_len (q : Nat) (f : List Nat) : (dbl q f).length ≤ 2 * f.length := by
  induction f with
  | nil => simp [dbl]
  | cons c f ih => rw [dbl_cons, List.length_append, List.length_cons]; split <;> simp <;> omega
theorem fmt_len (d q : Nat) (f : List Nat) : (fmt d q f).length ≤ 2 * f.length + 2 := by
  unfold fmt quoted
  have := dbl_len q f
  split
  · simp; omega
  · omega

noncomputable def rsz (r : List (List Nat)) : Nat := (r.map fun f => 2 * f.length + 3).sum
noncomputable def tsz (R : Tab) : Nat := (R.map fun r => rsz r + 3).sum
theorem joinL_len (z : List Nat) : ∀ r : List (List Nat), (joinL z r).length ≤ (r.map fun f => f.length + z.length).sum
  | [] => by simp [joinL]
  | [x] => by simp [joinL]
  | x :: y :: r => by
    have := joinL_len z (y :: r)
    rw [joinL, List.map_cons, List.sum_cons]
    simp only [List.length_append]
    omega
theorem fmtRow_len (d q : Nat) (r : List (List Nat)) : (fmtRow d q r).length ≤ rsz r := by
  unfold fmtRow rsz
  refine Nat.le_trans (joinL_len _ _) ?_
  rw [List.map_map]
  induction r with
  | nil => simp
  | cons f r ih =>
    simp only [List.map_cons, List.sum_cons, Function.comp_apply] at ih ⊢
    have := fmt_len d q f
    simp only [List.length_cons, List.length_nil] at *
    omega
theorem rowfmt_sum (d q : Nat) (r : List (List Nat)) : ((r.map (fmt d q)).map List.length).sum + (r.map (fmt d q)).length * [d].length ≤ rsz r := by
  unfold rsz
  induction r with
  | nil => simp
  | cons f r ih =>
    simp only [List.map_cons, List.sum_cons, List.length_cons, List.length_nil] at ih ⊢
    have := fmt_len d q f
    omega
theorem rsz_len (r : List (List Nat)) : r.length ≤ rsz r := by
  unfold rsz
  induction r with
  | nil => simp
  | cons f r ih => simp only [List.map_cons, List.sum_cons, List.length_cons]; omega
theorem tsz_len (R : Tab) : 3 * R.length ≤ tsz R := by
  unfold tsz
  induction R with
  | nil => simp
  | cons f r ih => simp only [List.map_cons, List.sum_cons, List.length_cons]; omega
end Mine

open PySem
set_option maxRecDepth 100000
set_option maxHeartbeats 4000000
namespace Mine

/-- a pair of signs that may serve -/
structure Dia (d q : Nat) : Prop where
  dq : d ≠ q
  d13 : d ≠ 13
  d10 : d ≠ 10
  q13 : q ≠ 13
  q10 : q ≠ 10

section
variable {d q : Nat} {st : PS} {f : List Nat} {r : List (List Nat)} {R : Tab} {rest t : List Nat} {c : Nat}

theorem run_nil : run d q st f r R [] = some (st, f, r, R) := by rw [run]
theorem run_in_other (h : c ≠ q) : run d q .inq f r R (c :: t) = run d q .inq (f ++ [c]) r R t := by
  rw [run]; simp [step, h]
theorem run_in_two : run d q .inq f r R (q :: q :: t) = run d q .inq (f ++ [q]) r R t := by
  rw [run]; simp [step]
theorem run_in_end (h : t.head? ≠ some q) : run d q .inq f r R (q :: t) = run d q .aft f r R t := by
  rw [run]; simp [step, h]
theorem run_delim (hs : st ≠ .inq) : run d q st f r R (d :: t) = run d q .start [] (r ++ [f]) R t := by
  rw [run]; simp [step, hs]
theorem run_open (D : Dia d q) : run d q .start f r R (q :: t) = run d q .inq f r R t := by
  rw [run]; simp [step, D.dq.symm, D.q13, D.q10]
theorem run_plain (hs : st = .start ∨ st = .plain) (h : special d q c = false) : run d q st f r R (c :: t) = run d q .plain (f ++ [c]) r R t := by
  have h' : ¬ (c = d ∨ c = q ∨ c = 13 ∨ c = 10) := by simpa [special] using h
  rw [not_or, not_or, not_or] at h'
  obtain ⟨h1, h2, h3, h4⟩ := h'
  rw [run]; rcases hs with rfl | rfl <;> simp [step, h1, h2, h3, h4]
theorem run_10 (D : Dia d q) (hs : st ≠ .inq) : run d q st f r R (10 :: t) = run d q .start [] [] (R ++ [r ++ [f]]) t := by
  rw [run]; simp [step, hs, D.d10.symm]
theorem run_13 (D : Dia d q) (hs : st ≠ .inq) (h : t.head? ≠ some 10) : run d q st f r R (13 :: t) = run d q .start [] [] (R ++ [r ++ [f]]) t := by
  rw [run]; simp [step, hs, D.d13.symm, h]
theorem run_1310 (D : Dia d q) (hs : st ≠ .inq) : run d q st f r R (13 :: 10 :: t) = run d q .start [] [] (R ++ [r ++ [f]]) t := by
  rw [run]; simp [step, hs, D.d13.symm]
theorem run_aft_bad (h1 : c ≠ d) (h2 : c ≠ 13) (h3 : c ≠ 10) : run d q .aft f r R (c :: t) = none := by
  rw [run]; simp [step, h1, h2, h3]
theorem run_plain_q (D : Dia d q) : run d q .plain f r R (q :: t) = none := by
  rw [run]; simp [step, D.dq.symm, D.q13, D.q10]

/-- the inside of a quoted field -/
theorem run_dbl : ∀ (g f : List Nat), run d q .inq f r R (dbl q g ++ t) = run d q .inq (f ++ g) r R t
  | [], f => by simp [dbl]
  | c :: g, f => by
    rw [dbl_cons]
    by_cases h : c = q
    · rw [if_pos h, h]
      show run d q .inq f r R (q :: q :: (dbl q g ++ t)) = _
      rw [run_in_two, run_dbl g, List.append_assoc]; rfl
    · rw [if_neg h]
      show run d q .inq f r R (c :: (dbl q g ++ t)) = _
      rw [run_in_other h, run_dbl g, List.append_assoc]; rfl
theorem run_quoted (D : Dia d q) (g : List Nat) (h : t.head? ≠ some q) : run d q .start [] r R (quoted q g ++ t) = run d q .aft g r R t := by
  have e : quoted q g ++ t = q :: (dbl q g ++ (q :: t)) := by simp [quoted]
  rw [e, run_open D, run_dbl, List.nil_append, run_in_end h]
theorem run_bare : ∀ (g f : List Nat) (st : PS), (st = .start ∨ st = .plain) → needs d q g = false → run d q st f r R (g ++ t) = run d q (if g = [] then st else .plain) (f ++ g) r R t
  | [], f, st, _, _ => by simp
  | c :: g, f, st, hs, h => by
    have h' : special d q c = false ∧ needs d q g = false := by simpa [needs] using h
    rw [List.cons_append, run_plain hs h'.1, run_bare g _ .plain (.inr rfl) h'.2]
    simp

/-- a field, written: bare or within quotes -/
noncomputable def Wr (d q : Nat) (f w : List Nat) : Prop := w = quoted q f ∨ (w = f ∧ needs d q f = false)
theorem wr_fmt (f : List Nat) : Wr d q f (fmt d q f) := by
  unfold fmt
  split
  · exact .inl rfl
  · rename_i h; exact .inr ⟨rfl, by simpa using h⟩
theorem run_field (D : Dia d q) {f w : List Nat} (h : Wr d q f w) : ∃ st : PS, st ≠ .inq ∧ (st = .start ↔ w = []) ∧ ∀ r R t, t.head? ≠ some q → run d q .start [] r R (w ++ t) = run d q st f r R t := by
  rcases h with rfl | ⟨rfl, hn⟩
  · exact ⟨.aft, by simp, by simp [quoted], fun r R t ht => run_quoted D f ht⟩
  · refine ⟨if w = [] then .start else .plain, by split <;> simp, by split <;> simp_all, fun r R t _ => ?_⟩
    rw [run_bare w [] .start (.inl rfl) hn, List.nil_append]

/-- a row, written field by field -/
inductive Wrs (d q : Nat) : List (List Nat) → List (List Nat) → Prop
  | nil : Wrs d q [] []
  | cons {f w fs ws} : Wr d q f w → Wrs d q fs ws → Wrs d q (f :: fs) (w :: ws)
theorem wrs_fmt : ∀ r : List (List Nat), Wrs d q r (r.map (fmt d q))
  | [] => .nil
  | f :: r => .cons (wr_fmt f) (wrs_fmt r)

/-- up to the last field of a row -/
theorem run_row (D : Dia d q) {fs ws : List (List Nat)} (h : Wrs d q fs ws) (hne : fs ≠ []) : ∃ (st : PS) (gs : List (List Nat)) (g : List Nat), st ≠ .inq ∧ fs = gs ++ [g] ∧ (st = .start ∧ gs = [] ↔ joinL [d] ws = []) ∧
    ∀ r R t, t.head? ≠ some q → run d q .start [] r R (joinL [d] ws ++ t) = run d q st g (r ++ gs) R t := by
  induction h with
  | nil => exact absurd rfl hne
  | @cons f w fs ws hw hws ih =>
    obtain ⟨st, hs, hse, hr⟩ := run_field D hw
    cases hws with
    | nil => exact ⟨st, [], f, hs, rfl, by simp [joinL, hse], fun r R t ht => by simp only [joinL, List.append_nil]; exact hr r R t ht⟩
    | @cons f' w' fs' ws' hw' hws' =>
      obtain ⟨st', gs, g, k1, k2, _, k4⟩ := ih (by simp)
      refine ⟨st', f :: gs, g, k1, by rw [k2]; rfl, by simp [joinL], fun r R t ht => ?_⟩
      have e : joinL [d] (w :: w' :: ws') ++ t = w ++ (d :: (joinL [d] (w' :: ws') ++ t)) := by simp [joinL]
      rw [e, hr _ _ _ (by simpa using D.dq), run_delim hs, k4 _ _ _ ht, List.append_assoc]; rfl

noncomputable def IsNl (nl : List Nat) : Prop := nl = [10] ∨ nl = [13] ∨ nl = [13, 10]
theorem run_nl (D : Dia d q) {nl : List Nat} (hn : IsNl nl) (hs : st ≠ .inq) (h : nl = [13] → t.head? ≠ some 10) : run d q st f r R (nl ++ t) = run d q .start [] [] (R ++ [r ++ [f]]) t := by
  rcases hn with rfl | rfl | rfl
  · exact run_10 D hs
  · exact run_13 D hs (h rfl)
  · exact run_1310 D hs
theorem nl_head (D : Dia d q) {nl : List Nat} (hn : IsNl nl) : (nl ++ t).head? ≠ some q := by
  rcases hn with rfl | rfl | rfl <;> simp [D.q13.symm, D.q10.symm]
theorem run_line (D : Dia d q) {fs ws : List (List Nat)} {nl : List Nat} (h : Wrs d q fs ws) (hne : fs ≠ []) (hn : IsNl nl) (ht : nl = [13] → t.head? ≠ some 10) :
    run d q .start [] [] R (joinL [d] ws ++ nl ++ t) = run d q .start [] [] (R ++ [fs]) t := by
  obtain ⟨st, gs, g, k1, k2, _, k4⟩ := run_row D h hne
  rw [List.append_assoc, k4 _ _ _ (nl_head D hn), run_nl D hn k1 ht, List.nil_append, ← k2]

/-- a line: what it holds, how its fields are written, its end -/
structure Ln where
  fs : List (List Nat)
  ws : List (List Nat)
  nl : List Nat
noncomputable def Ln.text (d : Nat) (l : Ln) : List Nat := joinL [d] l.ws ++ l.nl
noncomputable def Ln.Ok (d q : Nat) (l : Ln) : Prop := Wrs d q l.fs l.ws ∧ l.fs ≠ [] ∧ IsNl l.nl
theorem Ln.text_ne {l : Ln} (h : l.Ok d q) : l.text d ≠ [] := by
  obtain ⟨_, _, h⟩ := h
  unfold Ln.text
  rcases h with h | h | h <;> rw [h] <;> simp
theorem run_lines (D : Dia d q) (t : List Nat) : ∀ (ls : List Ln) (R : Tab), (∀ l ∈ ls, l.Ok d q) → ((∀ l ∈ ls, l.nl ≠ [13]) ∨ ((∀ l ∈ ls, (l.text d).head? ≠ some 10) ∧ t.head? ≠ some 10)) →
    run d q .start [] [] R (ls.flatMap (Ln.text d) ++ t) = run d q .start [] [] (R ++ ls.map Ln.fs) t
  | [], R, _, _ => by simp
  | l :: ls, R, ok, h => by
    have okl := ok l (List.mem_cons_self ..)
    have e : (l :: ls).flatMap (Ln.text d) ++ t = joinL [d] l.ws ++ l.nl ++ (ls.flatMap (Ln.text d) ++ t) := by simp [Ln.text]
    rw [e, run_line D okl.1 okl.2.1 okl.2.2, run_lines D t ls _ (fun l hl => ok l (List.mem_cons_of_mem _ hl)), List.append_assoc]
    · rfl
    · rcases h with h | h
      · exact .inl fun l hl => h l (List.mem_cons_of_mem _ hl)
      · exact .inr ⟨fun l hl => h.1 l (List.mem_cons_of_mem _ hl), h.2⟩
    · intro h13
      rcases h with h | h
      · exact absurd h13 (h l (List.mem_cons_self ..))
      · cases ls with
        | nil => simpa using h.2
        | cons l' ls' =>
          have h1 := h.1 l' (by simp)
          have h2 := Ln.text_ne (ok l' (by simp))
          rw [List.flatMap_cons, List.append_assoc]
          cases hx : l'.text d with
          | nil => exact absurd hx h2
          | cons a b => rw [hx] at h1; simpa using h1
theorem parse_lines (D : Dia d q) (ls : List Ln) (ok : ∀ l ∈ ls, l.Ok d q) (h : (∀ l ∈ ls, l.nl ≠ [13]) ∨ (∀ l ∈ ls, (l.text d).head? ≠ some 10)) : parse d q (ls.flatMap (Ln.text d)) = some (ls.map Ln.fs) := by
  have := run_lines D [] ls [] ok (h.imp id fun h => ⟨h, by simp⟩)
  rw [List.append_nil, run_nil] at this
  unfold parse
  rw [this]
  simp [fin]

theorem head_join (D : Dia d q) {fs ws : List (List Nat)} (h : Wrs d q fs ws) : (joinL [d] ws).head? ≠ some 10 := by
  cases h with
  | nil => simp [joinL]
  | @cons f w fs ws hw hws =>
    have hh : ∀ z : List Nat, z.head? ≠ some 10 → (w ++ z).head? ≠ some 10 := by
      intro z hz
      rcases hw with rfl | ⟨rfl, hn⟩
      · simpa [quoted] using D.q10
      · cases w with
        | nil => simpa using hz
        | cons a b =>
          have h' : special d q a = false ∧ needs d q b = false := by simpa [needs] using hn
          have := h'.1
          have : ¬ (a = d ∨ a = q ∨ a = 13 ∨ a = 10) := by simpa [special] using this
          simp; omega
    cases hws with
    | nil => simpa [joinL] using hh [] (by simp)
    | cons hw' hws' => rw [joinL, List.append_assoc]; exact hh _ (by simpa using D.d10)
/-- what is written reads back -/
theorem parse_fmt (D : Dia d q) {nl : List Nat} (hn : IsNl nl) (R : Tab) (hR : ∀ r ∈ R, r ≠ []) : parse d q (R.flatMap fun r => fmtRow d q r ++ nl) = some R := by
  have := parse_lines D (R.map fun r => ⟨r, r.map (fmt d q), nl⟩) (by
    intro l hl
    obtain ⟨r, hr, rfl⟩ := List.mem_map.mp hl
    exact ⟨wrs_fmt r, hR r hr, hn⟩) (by
    by_cases h : nl = [13]
    · right
      intro l hl
      obtain ⟨r, hr, rfl⟩ := List.mem_map.mp hl
      unfold Ln.text
      dsimp only
      have h1 := head_join D (wrs_fmt (d := d) (q := q) r)
      cases hx : joinL [d] (r.map (fmt d q)) with
      | nil => rw [h]; simp
      | cons a b => rw [hx] at h1; simpa using h1
    · left
      intro l hl
      obtain ⟨r, hr, rfl⟩ := List.mem_map.mp hl
      exact h)
  rw [List.flatMap_map, List.map_map] at this
  have e : (Ln.fs ∘ fun r => (⟨r, r.map (fmt d q), nl⟩ : Ln)) = id := rfl
  rw [e, List.map_id] at this
  exact this
end
end Mine

open PySem PyProof.Rows
set_option maxRecDepth 100000
set_option maxHeartbeats 4000000
namespace Mine

theorem fmod_small (x : Int) (n : Nat) (hn : 0 < n) : ∃ k : Nat, k < n ∧ x.fmod n = (k : Int) := by
  have h1 : x.fmod n = x % n := Int.fmod_eq_emod_of_nonneg x (by omega)
  have h2 : 0 ≤ x % (n : Int) := Int.emod_nonneg _ (by omega)
  have h3 : x % (n : Int) < n := Int.emod_lt_of_pos _ (by omega)
  exact ⟨(x % (n : Int)).toNat, by omega, by rw [h1]; omega⟩

/-- split at one sign -/
noncomputable def splitL (c : Nat) : List Nat → List (List Nat)
  | [] => [[]]
  | a :: l => if a = c then [] :: splitL c l else match splitL c l with
    | [] => [[a]]
    | p :: r => (a :: p) :: r
theorem splitL_ne (c : Nat) : ∀ l, splitL c l ≠ []
  | [] => by simp [splitL]
  | a :: l => by
    unfold splitL
    split
    · simp
    · split <;> simp
theorem splitL_free (c : Nat) : ∀ l : List Nat, c ∉ l → splitL c l = [l]
  | [], _ => rfl
  | a :: l, h => by
    have h1 : a ≠ c := fun e => h (e ▸ List.mem_cons_self ..)
    have h2 : c ∉ l := fun e => h (List.mem_cons_of_mem _ e)
    unfold splitL
    rw [if_neg h1, splitL_free c l h2]
theorem splitL_app (c : Nat) : ∀ (p l : List Nat), c ∉ p → splitL c (p ++ c :: l) = p :: splitL c l
  | [], l, _ => by simp [splitL]
  | a :: p, l, h => by
    have h1 : a ≠ c := fun e => h (e ▸ List.mem_cons_self ..)
    have h2 : c ∉ p := fun e => h (List.mem_cons_of_mem _ e)
    rw [List.cons_append, splitL, if_neg h1, splitL_app c p l h2]
theorem splitL_join (c : Nat) : ∀ ps : List (List Nat), ps ≠ [] → (∀ p ∈ ps, c ∉ p) → splitL c (joinL [c] ps) = ps
  | [], h, _ => absurd rfl h
  | [p], _, h => by rw [joinL]; exact splitL_free c p (h p (List.mem_singleton.mpr rfl))
  | p :: p' :: r, _, h => by
    rw [joinL, List.append_assoc, List.singleton_append, splitL_app c p _ (h p (List.mem_cons_self ..)), splitL_join c (p' :: r) (by simp) fun x hx => h x (List.mem_cons_of_mem _ hx)]
theorem joinL_splitL (c : Nat) : ∀ l, joinL [c] (splitL c l) = l
  | [] => rfl
  | a :: l => by
    have ih := joinL_splitL c l
    have hn := splitL_ne c l
    unfold splitL
    cases hs : splitL c l with
    | nil => exact absurd hs hn
    | cons p r =>
      rw [hs] at ih
      split
      · rename_i e
        rw [joinL, ih, e]; rfl
      · cases r with
        | nil => simp only [joinL] at ih ⊢; rw [ih]
        | cons p' r' => simp only [joinL] at ih ⊢; rw [← ih]; simp
theorem split_tx (c : Nat) (l : List Nat) : Txt.split (tx l) (tx [c]) = (splitL c l).map tx := by
  have e1 := StrLaws.join_split (tx l) (tx [c])
  have e2 := StrLaws.split_free (tx l) c
  have e3 : Txt.split (tx l) (tx [c]) = ((Txt.split (tx l) (tx [c])).map fun s => s.cps.toList).map tx := by
    rw [List.map_map]
    conv => lhs; rw [← List.map_id (Txt.split (tx l) (tx [c]))]
    apply List.map_congr_left
    intro a _
    simp
  have hne : Txt.split (tx l) (tx [c]) ≠ [] := by
    intro h
    have := split_pos (tx l) (tx [c])
    rw [h] at this
    simp at this
  rw [e3] at e1
  rw [join_tx, tx_inj] at e1
  have e4 := splitL_join c ((Txt.split (tx l) (tx [c])).map fun s => s.cps.toList) (fun h => hne (List.map_eq_nil_iff.mp h)) (by
    intro p hp
    obtain ⟨s, hs, rfl⟩ := List.mem_map.mp hp
    exact e2 s hs)
  rw [e1] at e4
  rw [e4, ← e3]

/-- each c made z -/
noncomputable def repL (c : Nat) (z : List Nat) (l : List Nat) : List Nat := l.flatMap fun a => if a = c then z else [a]
theorem joinL_rep (c : Nat) (z : List Nat) : ∀ l, joinL z (splitL c l) = repL c z l
  | [] => rfl
  | a :: l => by
    have ih := joinL_rep c z l
    have hn := splitL_ne c l
    unfold splitL
    cases hs : splitL c l with
    | nil => exact absurd hs hn
    | cons p r =>
      rw [hs] at ih
      have e : repL c z (a :: l) = (if a = c then z else [a]) ++ repL c z l := by simp [repL]
      rw [e, ← ih]
      split
      · rw [joinL]; simp
      · cases r with
        | nil => simp [joinL]
        | cons p' r' => simp [joinL]
theorem replace_tx (c : Nat) (z l : List Nat) : Txt.replace (tx l) (tx [c]) (tx z) = tx (repL c z l) := by
  rw [show tx [c] = ⟨#[c]⟩ from rfl, StrLaws.replace_one, show (⟨#[c]⟩ : Str) = tx [c] from rfl, split_tx, join_tx, joinL_rep]
theorem prepl_one (c : Nat) (z l : List Nat) (h : [c] ≠ z) (hl : l.length + (l.length + 1) * z.length ≤ LIM) : prepl (tx l) (tx [c]) (tx z) = .ok (.str (tx (repL c z l))) := by
  unfold prepl
  rw [if_pos, replace_tx]
  exact ⟨by rw [tx_eq]; exact decide_eq_false h, by rw [tx_len, tx_len]; exact hl⟩
theorem repL_dbl (q : Nat) (l : List Nat) : repL q [q, q] l = dbl q l := rfl
theorem repL_nil (c : Nat) (l : List Nat) : repL c [] l = l.filter fun a => decide (a ≠ c) := by
  induction l with
  | nil => rfl
  | cons a l ih =>
    have e : repL c [] (a :: l) = (if a = c then [] else [a]) ++ repL c [] l := by simp [repL]
    rw [e, ih]
    by_cases h : a = c <;> simp [h]
theorem repL_len0 (c : Nat) (l : List Nat) : (repL c [] l).length ≤ l.length := by rw [repL_nil]; exact List.length_filter_le _ _
theorem bare_iff (d q : Nat) (f : List Nat) : repL 10 [] (repL 13 [] (repL q [] (repL d [] f))) = f ↔ needs d q f = false := by
  simp only [repL_nil, List.filter_filter, List.filter_eq_self, needs]
  rw [List.any_eq_false]
  constructor
  · intro h a ha
    have := h a ha
    simp only [Bool.and_eq_true, decide_eq_true_eq] at this
    simp [special]; omega
  · intro h a ha
    have := h a ha
    simp [special] at this
    simp; omega
theorem psplit_tx (c : Nat) (l : List Nat) (h : l.length ≤ 1000000) : pmeth .split (tx l) (.str (tx [c])) = .ok (.list ((splitL c l).map txd)) := by
  unfold pmeth
  dsimp only
  rw [if_pos ⟨by rw [tx_len]; exact Nat.zero_lt_one, by rw [tx_len]; exact h⟩, split_tx, List.map_map]
  rfl
end Mine

open PySem PyProof.Rows
set_option maxRecDepth 100000
set_option maxHeartbeats 4000000
namespace Mine

theorem txd_eqv (r : List (List Nat)) : PyData.eqvAll (r.map txd) (r.map txd) = true := by
  induction r with
  | nil => rfl
  | cons f r ih =>
    show (tx f == tx f && PyData.eqvAll (r.map txd) (r.map txd)) = true
    rw [ih, Bool.and_true]; exact beq_self_eq_true _
theorem rowd_eqv (T : Tab) : PyData.eqvAll (T.map rowd) (T.map rowd) = true := by
  induction T with
  | nil => rfl
  | cons r T ih =>
    show (PyData.eqvAll (r.map txd) (r.map txd) && PyData.eqvAll (T.map rowd) (T.map rowd)) = true
    rw [ih, txd_eqv]; rfl
theorem tabd_eqv (T : Tab) : PyData.eqv (tabd T) (tabd T) = true := rowd_eqv T
theorem txd_depth (r : List (List Nat)) : PyData.depthAll (r.map txd) = 0 := by
  induction r with
  | nil => rfl
  | cons f r ih => simp only [List.map_cons, PyData.depthAll, ih, txd, PyData.depth, Nat.max_self]
theorem rowd_depth (T : Tab) : PyData.depthAll (T.map rowd) ≤ 1 := by
  induction T with
  | nil => simp [PyData.depthAll]
  | cons r T ih => simp only [List.map_cons, PyData.depthAll, rowd, PyData.depth, txd_depth]; omega
theorem tabd_depth (T : Tab) : (tabd T).depth ≤ 16 := by
  have := rowd_depth T
  unfold tabd; rw [PyData.depth]; omega
theorem pcmp_ne_tab (T : Tab) : pcmp .NotEq (tabd T) (tabd T) = .ok (.bool false) := by
  have h := tabd_depth T
  have e := tabd_eqv T
  unfold tabd at *
  unfold pcmp
  dsimp only
  rw [if_pos ⟨h, h⟩, e]; rfl
theorem pcmp_eq_tab_str (T : Tab) (x : Str) : pcmp .Eq (tabd T) (.str x) = .ok (.bool false) := by
  have h := tabd_depth T
  unfold tabd at *
  unfold pcmp
  dsimp only
  rw [if_pos ⟨h, by rw [PyData.depth]; omega⟩]; rfl

/-- how big the reader's state is -/
noncomputable def mu (f : List Nat) (r : List (List Nat)) (R : Tab) : Nat := tsz R + rsz r + 2 * f.length
theorem tsz_snoc (R : Tab) (r : List (List Nat)) : tsz (R ++ [r]) = tsz R + (rsz r + 3) := by simp [tsz]
theorem rsz_snoc (r : List (List Nat)) (f : List Nat) : rsz (r ++ [f]) = rsz r + (2 * f.length + 3) := by simp [rsz]
theorem step_mu {d q st f r R c nx st' f' r' R' j} (h : step d q st f r R c nx = some (st', f', r', R', j)) : mu f' r' R' ≤ mu f r R + 6 ∧ ((∀ x ∈ R, x ≠ []) → ∀ x ∈ R', x ≠ []) := by
  unfold step at h
  have rs : rsz [] = 0 := rfl
  repeat' split at h
  all_goals first | (cases h; done) | skip
  all_goals (simp only [Option.some.injEq, Prod.mk.injEq] at h; obtain ⟨_, rfl, rfl, rfl, _⟩ := h)
  all_goals (refine ⟨?_, ?_⟩)
  all_goals first
    | omega
    | (unfold mu; simp only [tsz_snoc, rsz_snoc, rs, List.length_append, List.length_cons, List.length_nil]; omega)
    | (intro hR x hx
       first
         | exact hR x hx
         | (rcases List.mem_append.mp hx with hx | hx
            · exact hR x hx
            · rw [List.mem_singleton.mp hx]; simp))
theorem run_mu {d q : Nat} : ∀ (n : Nat) (t : List Nat), t.length ≤ n → ∀ {st f r R st' f' r' R'}, run d q st f r R t = some (st', f', r', R') → mu f' r' R' ≤ mu f r R + 6 * t.length ∧ ((∀ x ∈ R, x ≠ []) → ∀ x ∈ R', x ≠ [])
  | n, [], _, st, f, r, R, st', f', r', R', h => by
    rw [run_nil] at h
    cases h
    exact ⟨by simp, id⟩
  | 0, _ :: _, hn, _, _, _, _, _, _, _, _, _ => by simp at hn
  | n + 1, c :: t, hn, st, f, r, R, st', f', r', R', h => by
    rw [List.length_cons] at hn
    rw [run] at h
    cases hs : step d q st f r R c t.head? with
    | none => rw [hs] at h; cases h
    | some x =>
      obtain ⟨s1, f1, r1, R1, j⟩ := x
      rw [hs] at h
      dsimp only at h
      have a := step_mu hs
      split at h
      · have b := run_mu n t.tail (by rw [List.length_tail]; omega) h
        have : t.tail.length ≤ t.length := by rw [List.length_tail]; omega
        exact ⟨by rw [List.length_cons]; omega, fun h => b.2 (a.2 h)⟩
      · have b := run_mu n t (by omega) h
        exact ⟨by rw [List.length_cons]; omega, fun h => b.2 (a.2 h)⟩
theorem parse_size {d q : Nat} {t : List Nat} {T : Tab} (h : parse d q t = some T) : tsz T ≤ 6 * t.length + 6 ∧ ∀ r ∈ T, r ≠ [] := by
  unfold parse at h
  cases hr : run d q .start [] [] [] t with
  | none => rw [hr] at h; cases h
  | some x =>
    obtain ⟨st, f, r, R⟩ := x
    rw [hr] at h
    obtain ⟨a, b⟩ := run_mu t.length t (Nat.le_refl _) hr
    have b' := b (by simp)
    have m0 : mu [] [] [] = 0 := rfl
    rw [m0] at a
    unfold mu at a
    unfold fin at h
    dsimp only at h
    split at h
    · cases h
    · split at h
      · cases h
        refine ⟨by rw [tsz_snoc, rsz_snoc]; omega, fun x hx => ?_⟩
        rcases List.mem_append.mp hx with hx | hx
        · exact b' x hx
        · rw [List.mem_singleton.mp hx]; simp
      · cases h
        exact ⟨by omega, b'⟩
theorem out_len (d q : Nat) (nl : List Nat) (hnl : nl.length ≤ 2) (R : Tab) : (R.flatMap fun r => fmtRow d q r ++ nl).length ≤ tsz R := by
  unfold tsz
  induction R with
  | nil => simp
  | cons r R ih =>
    simp only [List.flatMap_cons, List.length_append, List.map_cons, List.sum_cons]
    have := fmtRow_len d q r
    omega
theorem any_ne {T : Tab} (h : ∀ r ∈ T, r ≠ []) : ¬ (T.any (fun r => decide (r = [])) = true) := by
  intro h'
  obtain ⟨r, hr, e⟩ := List.any_eq_true.mp h'
  exact h r hr (by simpa using e)
theorem tsz_app (A B : Tab) : tsz (A ++ B) = tsz A + tsz B := by simp [tsz]
theorem tsz_take_drop (T : Tab) (k : Nat) : tsz (T.take k) + tsz (T.drop k) = tsz T := by rw [← tsz_app, List.take_append_drop]
theorem tsz_mem {T : Tab} {r : List (List Nat)} {f : List Nat} (hr : r ∈ T) (hf : f ∈ r) : f.length ≤ tsz T := by
  have h1 : rsz r + 3 ≤ tsz T := by
    unfold tsz
    have : rsz r + 3 ∈ T.map fun r => rsz r + 3 := List.mem_map.mpr ⟨r, hr, rfl⟩
    generalize T.map (fun r => rsz r + 3) = l at this
    induction l with
    | nil => cases this
    | cons a l ih =>
      rw [List.sum_cons]
      rcases List.mem_cons.mp this with h | h
      · omega
      · have := ih h; omega
  have h2 : 2 * f.length + 3 ≤ rsz r := by
    unfold rsz
    have : 2 * f.length + 3 ∈ r.map fun f => 2 * f.length + 3 := List.mem_map.mpr ⟨f, hf, rfl⟩
    generalize r.map (fun f => 2 * f.length + 3) = l at this
    induction l with
    | nil => cases this
    | cons a l ih =>
      rw [List.sum_cons]
      rcases List.mem_cons.mp this with h | h
      · omega
      · have := ih h; omega
  omega
end Mine

open PySem
set_option maxRecDepth 100000
set_option maxHeartbeats 4000000
namespace Mine

/-- a text of whole lines: what stands behind it is read from the start -/
noncomputable def Rd (d q : Nat) (t : List Nat) (R : Tab) : Prop := ∀ rest : List Nat, rest.head? ≠ some 10 → run d q .start [] [] [] (t ++ rest) = run d q .start [] [] R rest
/-- the pieces of a row, as its fields are written -/
noncomputable def pcs (d : Nat) (nl : List Nat) : List (List Nat) → List (List Nat)
  | [] => []
  | w :: ws => match ws with
    | [] => [w ++ nl]
    | _ :: _ => (w ++ [d]) :: pcs d nl ws
theorem hd_ne {c k : Nat} {l : List Nat} (h : c ≠ k) : (c :: l).head? ≠ some k := fun e => h (Option.some.inj e)
section
variable {d q : Nat} {t nl : List Nat} {R : Tab}
theorem pcs_one (w : List Nat) : pcs d nl [w] = [w ++ nl] := rfl
theorem pcs_two (w v : List Nat) (ws : List (List Nat)) : pcs d nl (w :: v :: ws) = (w ++ [d]) :: pcs d nl (v :: ws) := rfl
theorem pcs_len : ∀ ws : List (List Nat), (pcs d nl ws).length = ws.length
  | [] => rfl
  | [w] => rfl
  | w :: v :: ws => by rw [pcs_two, List.length_cons, pcs_len (v :: ws)]; rfl
theorem pcs_flat : ∀ ws : List (List Nat), ws ≠ [] → (pcs d nl ws).flatten = joinL [d] ws ++ nl
  | [], h => absurd rfl h
  | [w], _ => by rw [pcs_one, List.flatten_cons, List.flatten_nil, List.append_nil]; rfl
  | w :: v :: ws, _ => by rw [pcs_two, List.flatten_cons, pcs_flat (v :: ws) (List.cons_ne_nil _ _), joinL, List.append_assoc, List.append_assoc, List.append_assoc]
theorem pcs_snoc (v : List Nat) : ∀ vs : List (List Nat), pcs d nl (vs ++ [v]) = vs.map (· ++ [d]) ++ [v ++ nl]
  | [] => rfl
  | [w] => rfl
  | w :: u :: ws => by
    have := pcs_snoc v (u :: ws)
    rw [List.cons_append] at this
    rw [List.cons_append, List.cons_append, pcs_two, this]; rfl
theorem rd_nil : Rd d q [] [] := fun _ _ => rfl
theorem rd_parse (h : Rd d q t R) : parse d q t = some R := by
  have := h [] nofun
  rw [List.append_nil, run_nil] at this
  unfold parse
  rw [this]
  rfl
theorem run_pcs (D : Dia d q) (hn : IsNl nl) {fs ws : List (List Nat)} (h : Wrs d q fs ws) : ∀ (j : Nat) (r0 : List (List Nat)) (R : Tab), ∃ r' R', ∀ rest : List Nat, rest.head? ≠ some 10 →
    run d q .start [] r0 R (((pcs d nl ws).take j).flatten ++ rest) = run d q .start [] r' R' rest := by
  induction h with
  | nil => exact fun j r0 R => ⟨r0, R, fun rest _ => by rw [pcs, List.take_nil]; rfl⟩
  | @cons f w fs ws hw hws ih =>
    intro j r0 R
    cases j with
    | zero => exact ⟨r0, R, fun rest _ => rfl⟩
    | succ j =>
      obtain ⟨st, hs, _, hr⟩ := run_field D hw
      cases hws with
      | nil =>
        refine ⟨[], R ++ [r0 ++ [f]], fun rest h => ?_⟩
        have e : ((pcs d nl [w]).take (j + 1)).flatten ++ rest = w ++ (nl ++ rest) := by rw [pcs_one, List.take_succ_cons, List.take_nil, List.flatten_cons, List.flatten_nil, List.append_nil, List.append_assoc]
        rw [e, hr _ _ _ (nl_head D hn), run_nl D hn hs fun _ => h]
      | @cons f' w' fs' ws' hw' hws' =>
        obtain ⟨r', R', k⟩ := ih j (r0 ++ [f]) R
        refine ⟨r', R', fun rest h => ?_⟩
        have e : ((pcs d nl (w :: w' :: ws')).take (j + 1)).flatten ++ rest = w ++ (d :: (((pcs d nl (w' :: ws')).take j).flatten ++ rest)) := by
          rw [pcs_two, List.take_succ_cons, List.flatten_cons, List.append_assoc, List.append_assoc]; rfl
        rw [e, hr _ _ _ (hd_ne D.dq), run_delim hs, k rest h]
theorem head_app {a b : List Nat} (ha : a ≠ []) (h : a.head? ≠ some 10) : (a ++ b).head? ≠ some 10 := by
  cases a with
  | nil => exact absurd rfl ha
  | cons c a => exact h
theorem pcs_head (D : Dia d q) {fs ws : List (List Nat)} (h : Wrs d q fs ws) (hj : joinL [d] ws ≠ []) (j : Nat) (rest : List Nat) (hr : rest.head? ≠ some 10) : (((pcs d nl ws).take j).flatten ++ rest).head? ≠ some 10 := by
  cases h with
  | nil => exact absurd rfl hj
  | @cons f w fs ws hw hws =>
    have hh : w.head? ≠ some 10 := head_join D (.cons hw .nil)
    cases j with
    | zero => exact hr
    | succ j =>
      cases hws with
      | nil =>
        rw [pcs_one, List.take_succ_cons, List.take_nil, List.flatten_cons, List.flatten_nil, List.append_nil, List.append_assoc]
        exact head_app hj hh
      | cons hw' hws' =>
        rw [pcs_two, List.take_succ_cons, List.flatten_cons, List.append_assoc, List.append_assoc]
        by_cases hw0 : w = []
        · rw [hw0]; exact hd_ne D.d10
        · exact head_app hw0 hh
/-- its last sign is no end of a line -/
noncomputable def Fin10 (a : List Nat) : Prop := ∃ a' c, a = a' ++ [c] ∧ c ≠ 13 ∧ c ≠ 10
theorem Fin10.app {b : List Nat} (a : List Nat) (h : Fin10 b) : Fin10 (a ++ b) := by
  obtain ⟨b', c, rfl, h⟩ := h
  exact ⟨a ++ b', c, (List.append_assoc ..).symm, h⟩
theorem wr_last (D : Dia d q) {f w : List Nat} (h : Wr d q f w) (hw : w ≠ []) : Fin10 w := by
  rcases h with rfl | ⟨rfl, hn⟩
  · exact ⟨q :: dbl q f, q, rfl, D.q13, D.q10⟩
  · rcases List.eq_nil_or_concat w with rfl | ⟨w', c, rfl⟩
    · exact absurd rfl hw
    · refine ⟨w', c, List.concat_eq_append, ?_⟩
      unfold needs at hn
      rw [List.any_eq_false] at hn
      have := hn c (by rw [List.concat_eq_append]; exact List.mem_append_right _ (List.mem_singleton.mpr rfl))
      unfold special at this
      rw [decide_eq_true_eq] at this
      exact ⟨fun e => this (.inr (.inr (.inl e))), fun e => this (.inr (.inr (.inr e)))⟩
theorem join_last (D : Dia d q) {fs ws : List (List Nat)} (h : Wrs d q fs ws) (hj : joinL [d] ws ≠ []) : Fin10 (joinL [d] ws) := by
  induction h with
  | nil => exact absurd rfl hj
  | @cons f w fs ws hw hws ih =>
    cases hws with
    | nil => exact wr_last D hw hj
    | @cons f' w' fs' ws' hw' hws' =>
      rw [joinL]
      by_cases h0 : joinL [d] (w' :: ws') = []
      · rw [h0, List.append_nil]
        exact ⟨w, d, rfl, D.d13, D.d10⟩
      · exact (ih h0).app _
theorem rd_open (D : Dia d q) {fs ws : List (List Nat)} (h : Wrs d q fs ws) (hne : fs ≠ []) (hj : joinL [d] ws ≠ []) (k : Rd d q t R) : parse d q (t ++ joinL [d] ws) = some (R ++ [fs]) := by
  unfold parse
  rw [k _ (head_join D h)]
  obtain ⟨st, gs, g, k1, k2, k3, k4⟩ := run_row D h hne
  have := k4 [] R [] nofun
  rw [List.append_nil] at this
  rw [this, run_nil, List.nil_append]
  unfold fin
  dsimp only
  have : gs ≠ [] ∨ st ≠ .start := by
    by_cases h1 : gs = []
    · exact .inr fun h2 => hj (k3.mp ⟨h2, h1⟩)
    · exact .inl h1
  rw [if_neg k1, if_pos this, ← k2]
/-- the pieces of a loose text, and the table that they are -/
structure Pk (d q : Nat) (P : List (List Nat)) (R : Tab) : Prop where
  rd : Rd d q P.flatten R
  cut : ∀ k : Nat, ∃ r' R', ∀ rest : List Nat, rest.head? ≠ some 10 → run d q .start [] [] [] ((P.take k).flatten ++ rest) = run d q .start [] r' R' rest
  op : ∃ a z, P.flatten = a ++ z ∧ (∀ c ∈ z, c = 13 ∨ c = 10) ∧ (a = [] ∨ Fin10 a) ∧ parse d q a = some R
  ln : P.length ≤ 5 * R.length
  sz : P.flatten.length ≤ 100 * R.length
theorem Pk.nil : Pk d q [] [] := ⟨rd_nil, fun k => ⟨[], [], fun rest _ => by rw [List.take_nil]; rfl⟩, ⟨[], [], rfl, nofun, .inl rfl, rd_parse rd_nil⟩, Nat.le_refl _, Nat.le_refl _⟩
theorem Pk.more (D : Dia d q) {P : List (List Nat)} (p : Pk d q P R) (hn : IsNl nl) {fs ws : List (List Nat)} (h : Wrs d q fs ws) (hne : fs ≠ []) (hj : joinL [d] ws ≠ []) (hl : ws.length ≤ 5) (hs : (joinL [d] ws).length ≤ 98) :
    Pk d q (P ++ pcs d nl ws) (R ++ [fs]) := by
  have hw : ws ≠ [] := fun e => hj (by rw [e]; rfl)
  have fl : (P ++ pcs d nl ws).flatten = P.flatten ++ joinL [d] ws ++ nl := by rw [List.flatten_append, pcs_flat ws hw, List.append_assoc]
  have l2 : nl.length ≤ 2 := by rcases hn with rfl | rfl | rfl <;> decide
  refine ⟨?_, ?_, ?_, ?_, ?_⟩
  · intro rest hr
    rw [fl, List.append_assoc, List.append_assoc, p.rd _ (head_app hj (head_join D h)), ← List.append_assoc, run_line D h hne hn fun _ => hr]
  · intro k
    rcases Nat.lt_or_ge k P.length with hk | hk
    · obtain ⟨r', R', c⟩ := p.cut k
      refine ⟨r', R', fun rest hr => ?_⟩
      rw [List.take_append_of_le_length (Nat.le_of_lt hk)]
      exact c rest hr
    · obtain ⟨r', R', c⟩ := run_pcs D hn h (k - P.length) [] R
      refine ⟨r', R', fun rest hr => ?_⟩
      rw [List.take_append, List.take_of_length_le hk, List.flatten_append, List.append_assoc, p.rd _ (pcs_head D h hj _ _ hr), c rest hr]
  · refine ⟨P.flatten ++ joinL [d] ws, nl, fl, ?_, .inr ((join_last D h hj).app _), rd_open D h hne hj p.rd⟩
    intro c hc
    rcases hn with rfl | rfl | rfl
    · exact .inr (List.mem_singleton.mp hc)
    · exact .inl (List.mem_singleton.mp hc)
    · rcases List.mem_cons.mp hc with e | e
      · exact .inl e
      · exact .inr (List.mem_singleton.mp e)
  · rw [List.length_append, List.length_append, pcs_len, List.length_singleton]
    have := p.ln
    omega
  · rw [fl, List.length_append, List.length_append, List.length_append, List.length_singleton]
    have := p.sz
    omega
theorem Pk.dmg0 (D : Dia d q) {P : List (List Nat)} (p : Pk d q P R) (k : Nat) (x : List Nat) : parse d q ((P.take k).flatten ++ (q :: dbl q x)) = none := by
  obtain ⟨r', R', c⟩ := p.cut k
  unfold parse
  have := run_dbl (d := d) (q := q) (r := r') (R := R') (t := []) x []
  rw [List.append_nil] at this
  rw [c _ (hd_ne D.q10), run_open D, this, run_nil]
  rfl
theorem Pk.dmg1 (D : Dia d q) {P : List (List Nat)} (p : Pk d q P R) (hq : q ≠ 120) (hd : d ≠ 120) (k : Nat) (x : List Nat) : parse d q ((P.take k).flatten ++ (q :: q :: 120 :: x)) = none := by
  obtain ⟨r', R', c⟩ := p.cut k
  unfold parse
  rw [c _ (hd_ne D.q10), run_open D, run_in_end (hd_ne (Ne.symm hq)), run_aft_bad (Ne.symm hd) (by decide) (by decide)]
  rfl
theorem Pk.dmg2 (D : Dia d q) {P : List (List Nat)} (p : Pk d q P R) (hq : q ≠ 120) (hd : d ≠ 120) (k : Nat) (x : List Nat) : parse d q ((P.take k).flatten ++ (120 :: q :: x)) = none := by
  obtain ⟨r', R', c⟩ := p.cut k
  have s120 : special d q 120 = false := decide_eq_false (by omega)
  unfold parse
  rw [c _ (hd_ne (by decide)), run_plain (.inl rfl) s120, run_plain_q D]
  rfl
end
theorem rstrip_tx (a z : List Nat) (hz : ∀ c ∈ z, c = 13 ∨ c = 10) (ha : a = [] ∨ Fin10 a) : Txt.rstripChars (tx (a ++ z)) (Str.ofString "\r\n") = tx a := by
  have g : ∀ c, (Str.ofString "\r\n").cps.contains c = decide (c = 13 ∨ c = 10) := by
    intro c
    rw [s1310]
    rw [Bool.eq_iff_iff, decide_eq_true_eq]
    simp
  have e1 : ((a ++ z).reverse.takeWhile (Str.ofString "\r\n").cps.contains).length = z.length := by
    rw [List.reverse_append, List.takeWhile_append_of_pos (by intro c hc; rw [g]; exact decide_eq_true (hz c (List.mem_reverse.mp hc)))]
    have : a.reverse.takeWhile (Str.ofString "\r\n").cps.contains = [] := by
      rcases ha with rfl | ⟨a', c, rfl, h1, h2⟩
      · rfl
      · rw [List.reverse_append, List.reverse_singleton, List.singleton_append, List.takeWhile_cons, g, decide_eq_false (by omega)]; rfl
    rw [this, List.append_nil, List.length_reverse]
  have hi : stripHi (Str.ofString "\r\n").cps.contains true (tx (a ++ z)) 0 = a.length := by
    show (tx (a ++ z)).length - ((a ++ z).reverse.takeWhile (Str.ofString "\r\n").cps.contains).length = a.length
    rw [e1, tx_len, List.length_append]; omega
  have st : stripped (Str.ofString "\r\n").cps.contains false true (tx (a ++ z)) = tx a := by
    show Builtin.Str.strSub (tx (a ++ z)) 0 (stripHi _ true (tx (a ++ z)) 0) = _
    rw [hi]
    show Str.mk ((a ++ z).toArray.extract 0 a.length) = _
    simp
  unfold Txt.rstripChars Txt.stripBy
  split
  · rename_i h
    have h2 : ((0 : Nat) == 0 && stripHi (Str.ofString "\r\n").cps.contains true (tx (a ++ z)) 0 == (tx (a ++ z)).length) = true := h
    rw [hi, tx_len] at h2
    have h3 : a.length = (a ++ z).length := by simpa using h2
    rw [List.length_append] at h3
    have : z = [] := List.eq_nil_of_length_eq_zero (by omega)
    rw [this, List.append_nil]
  · exact st
end Mine

open PySem PyProof.Rows PySem.W
set_option maxRecDepth 100000
namespace Mine

noncomputable def drec (p : Program) (k : Nat) : DefRec := match p.main.body[k]? with
  | some (.FunctionDef n a b _ _ _ sc _ _ pos) => ⟨n, a, b, sc, pos⟩
  | _ => ⟨Str.ofString "", ⟨[], [], none, [], [], none, []⟩, [], default, ⟨0, 0, 0, 0⟩⟩

noncomputable def defOk (d : DefRec) (ps : List String) (q : QS) : Bool :=
  ps.all (fun x => isL d.scope x) && okB d.scope q d.body && (d.scope.names.lookup (Str.ofString "__debug__")).isNone
  && !d.scope.isCoroutine && !d.scope.isGenerator && d.scope.kind == .function && d.scope.names.all (fun x => x.2 != .cell)

noncomputable def bnames : List String := ["len", "list", "type", "str", "range", "zip", "ValueError"]
noncomputable def TabAt (mg : Str → Option Value) (h : Heap) (t0 : Nat) (q : String × PyData) : Prop := ∃ v, mg (Str.ofString q.1) = some v ∧ Rep h [] t0 q.2 v
theorem look_mem {β : Type} : ∀ {l : List (String × β)} {x : Str} {v : β}, look l x = some v → ∃ k, (k, v) ∈ l ∧ x = Str.ofString k
  | [], _, _, h => by cases h
  | (k, v) :: l, x, v', h => by
    rw [look_cons] at h
    split at h
    · rename_i e; cases h; exact ⟨k, List.mem_cons_self .., e⟩
    · obtain ⟨g', h1, h2⟩ := look_mem h; exact ⟨g', List.mem_cons_of_mem _ h1, h2⟩

section
variable {prog p : Program} {w : World} {base0 : Heap} {mg mb : Str → Option Value} {t0 n : Nat} {loose : List Str} {mean : ExcName → Option Value}

theorem def_top (T : Top p loose mean mg mb base0) (ps : List String) (C : PC) (q : QS) (G : Glo prog w base0 mg mb t0 n C) (d : DefRec) (hd : d ∈ recsOf p) (ok : defOk d ps q = true)
    (hb : ∀ (pm cd doc : Value) (vs : List Value), vs.length = ps.length → bindArgs (Calls.docDef d.name d.params d.body d.scope pm cd doc) ⟨vs, []⟩ = pure ((ps.map Str.ofString).zip vs)) :
    ∃ a, mg d.name = some (.ref a) ∧ CallOK prog w base0 t0 (n + 1) a (pcall C (ps.map Str.ofString) q) := by
  obtain ⟨a, o, pm, cd, doc, h1, h2, h3, h4⟩ := T.fn d hd
  unfold defOk at ok
  simp only [Bool.and_eq_true, List.all_eq_true, Bool.not_eq_true', beq_iff_eq, bne_iff_ne] at ok
  obtain ⟨⟨⟨⟨⟨⟨k1, k2⟩, k3⟩, k5⟩, k6⟩, k7⟩, k8⟩ := ok
  refine ⟨a, h1, def_ok G h2 h3 h4 (ps.map Str.ofString) (fun vs hv => hb pm cd doc vs (by simpa using hv)) ?_ k2 (by simpa using k3) k5 k6 k7 k8⟩
  intro x hx
  obtain ⟨y, hy, rfl⟩ := List.mem_map.mp hx
  exact ofLk (k1 y hy)

theorem boot_them : bootBuiltins (Str.ofString "len") = some (.builtin "len") ∧ bootBuiltins (Str.ofString "list") = some (.type "list") ∧ bootBuiltins (Str.ofString "type") = some (.type "type") ∧ bootBuiltins (Str.ofString "str") = some (.type "str")
    ∧ bootBuiltins (Str.ofString "range") = some (.type "range") ∧ bootBuiltins (Str.ofString "zip") = some (.type "zip") ∧ bootBuiltins (Str.ofString "ValueError") = some (.type "ValueError") := by
  decide +kernel

theorem bltOf_cases {x : Str} {v : Value} (h : bltOf x = some v) : ∃ k ∈ bnames, x = Str.ofString k ∧ k ≠ "__name__" ∧ bootBuiltins (Str.ofString k) = some v := by
  unfold bltOf at h
  obtain ⟨b1, b2, b3, b4, b5, b6, b7⟩ := boot_them
  by_cases k : x = Str.ofString "len"
  · rw [if_pos k] at h; exact ⟨_, .head _, k, by decide, b1.trans h⟩
  rw [if_neg k] at h; clear k
  by_cases k : x = Str.ofString "list"
  · rw [if_pos k] at h; exact ⟨_, .tail _ (.head _), k, by decide, b2.trans h⟩
  rw [if_neg k] at h; clear k
  by_cases k : x = Str.ofString "type"
  · rw [if_pos k] at h; exact ⟨_, .tail _ (.tail _ (.head _)), k, by decide, b3.trans h⟩
  rw [if_neg k] at h; clear k
  by_cases k : x = Str.ofString "str"
  · rw [if_pos k] at h; exact ⟨_, .tail _ (.tail _ (.tail _ (.head _))), k, by decide, b4.trans h⟩
  rw [if_neg k] at h; clear k
  by_cases k : x = Str.ofString "range"
  · rw [if_pos k] at h; exact ⟨_, .tail _ (.tail _ (.tail _ (.tail _ (.head _)))), k, by decide, b5.trans h⟩
  rw [if_neg k] at h; clear k
  by_cases k : x = Str.ofString "zip"
  · rw [if_pos k] at h; exact ⟨_, .tail _ (.tail _ (.tail _ (.tail _ (.tail _ (.head _))))), k, by decide, b6.trans h⟩
  rw [if_neg k] at h; clear k
  by_cases k : x = Str.ofString "ValueError"
  · rw [if_pos k] at h; exact ⟨_, .tail _ (.tail _ (.tail _ (.tail _ (.tail _ (.tail _ (.head _)))))), k, by decide, b7.trans h⟩
  rw [if_neg k] at h; exact nn h

theorem glo_mk (T : Top p loose mean mg mb base0) (Gt : List (String × PyData)) (Ft : List (String × (List PyData → Out PyData))) (ht : 0 < t0)
    (hG : ∀ q ∈ Gt, TabAt mg base0 t0 q) (hF : ∀ q ∈ Ft, ∃ a, mg (Str.ofString q.1) = some (.ref a) ∧ CallOK prog w base0 t0 n a q.2)
    (hb : ∀ x ∈ bnames, mg (Str.ofString x) = none) : Glo prog w base0 mg mb t0 n (mkC Gt Ft) where
  g := T.g
  b := T.b
  lim := T.nolimit
  pos := ht
  data := by
    intro x d e
    obtain ⟨k, h1, rfl⟩ := look_mem e
    exact hG _ h1
  fn := by
    intro x f e
    obtain ⟨k, h1, rfl⟩ := look_mem e
    exact hF _ h1
  blt := by
    intro x v e
    obtain ⟨k, h1, rfl, h2, h3⟩ := bltOf_cases e
    refine ⟨hb k h1, (T.builtins _ fun e => h2 ?_).trans h3⟩
    have e' : Str.ofString k = Str.ofString "__name__" := e
    rwa [ofS_inj] at e'
end
end Mine

open PySem PyProof.Rows PySem.W
set_option maxRecDepth 100000
namespace Mine

theorem reps_ints {h : Heap} {tk : Nat} {vs : List Value} {ns : List Int} (x : IntsAre vs ns) : Reps h [] tk (ns.map .int) vs := by
  induction x with
  | nil => rfl
  | cons n t _ ih => exact ⟨_, _, rfl, ⟨t, rfl⟩, ih⟩
theorem top_law {prog : Program} {w : World} {s₁ : Shared} {t0 n : Nat} {a L : Addr} {f : List PyData → Out PyData} {ns : List Int} {vals : List Value} {Q E : Value → Shared → Prop} (k : CallOK prog w s₁.heap t0 n a f) (hn : n ≤ 20) (ht : t0 ≤ s₁.toks) (hL : s₁.heap.IsList L vals.toArray) (hI : IntsAre vals ns)
    (e : f [.list (ns.map .int)] = .ok (.bool true)) (hQ : ∀ h' tk', s₁.heap.StaysIn h' → Q (.bool true) { s₁ with heap := h', toks := tk' }) : wpAny (model prog w) callerA (call (.ref a) [.ref L]) Q E s₁ := by
  have d1 : callerA.depth + 20 < recursionLimit := by decide +kernel
  have d2 : callerA.units + 4 * 20 + 100 < cLine := by decide +kernel
  refine k.2 callerA s₁ s₁.heap [] [] [.ref L] [.list (ns.map .int)] Q E rfl rfl (by omega) (by omega) (fun _ _ e => e) (fun _ _ e => e) ⟨trivial, fun a ha => nomatch ha⟩ (fun a ha => nomatch ha) ht (Reps.one ?_) ?_
  · obtain ⟨o, h1, h2, n', h3⟩ := hL
    exact ⟨L, o, vals.toArray, n', rfl, (fun h => nomatch h), h1, h2, rfl, h3, by simpa using reps_ints hI⟩
  · rw [e]
    intro v h' tk' g r
    obtain rfl : v = .bool true := r
    exact hQ h' tk' g.bs
theorem good_true {c : ClaimW} {cl : Str → Option Addr} {mean : ExcName → Option Value} {args : List WData} {s₁ : Shared} {h' : Heap} {tk' : Nat} (hg : s₁.gens = #[]) (k : s₁.heap.StaysIn h') (hr : ∀ cls, c.raises args cls = false) (hp : c.post args (.bool true) args = true) :
    GoodWG c cl mean args s₁ (.ok (.ret (.bool true))) { s₁ with heap := h', toks := tk' } :=
  GoodW.toG ⟨.inl ⟨_, _, [], rfl, hr, ReadsW.bool true, hp, fun _ => ⟨List.nodup_nil, fun _ hm => (nomatch hm)⟩⟩, k, rfl, hg⟩
end Mine

open PySem PySem.W PyProof.Rows
set_option maxRecDepth 100000
namespace Mine
/-- the text's statements less those that name the module -/
noncomputable def isNmS (s : Stmt) : Bool := o3B (asg? s) fun x _ _ => x == Str.ofString "__name__"
noncomputable def view (p : Program) : Program := { p with main := { p.main with body := p.main.body.filter fun s => !isNmS s } }

noncomputable def all2 {α β : Type} (f : α → β → Bool) : List α → List β → Bool
  | [], vs => vs.isEmpty
  | d :: ds, vs => (match vs with
    | v :: vs => f d v && all2 f ds vs
    | [] => false)
noncomputable def strV : Value → Option (Str × Tok)
  | .str x t => some (x, t)
  | _ => none
noncomputable def refV : Value → Option Addr
  | .ref a => some a
  | _ => none
noncomputable def tupO (o : Obj) : Option (Array Value) := if o.cls = .type "tuple" then (match o.data with
  | .seq vs _ => some vs
  | _ => none) else none
/-- a datum of texts that stands in the heap -/
noncomputable def repH (h : Heap) (tk : Nat) : Nat → PyData → Value → Bool
  | 0, _, _ => false
  | k + 1, d, v => (match d with
    | .str x => o2B (strV v) fun x' t => x == x' && decide (0 < t) && decide (t < tk) && PyData.strOk x
    | .tuple ds => oB (refV v) fun a => oB (h.get? a) fun o => oB (tupO o) fun vs => all2 (repH h tk k) ds vs.toList
    | _ => false)

theorem rep_h {h : Heap} {tk : Nat} : ∀ (k : Nat) (d : PyData) (v : Value), repH h tk k d v = true → Rep h [] tk d v
  | 0, _, _, e => (Bool.false_ne_true e).elim
  | k + 1, d, v, e => by
    cases d with
    | str x =>
      obtain ⟨x', t, h1, h2⟩ := opt2_of (o := strV v) (f := fun x' t => x == x' && decide (0 < t) && decide (t < tk) && PyData.strOk x) e
      obtain ⟨h2, h5⟩ := and2 h2
      obtain ⟨h2, h3, h4⟩ := and3 h2
      obtain rfl : x = x' := eq_of_beq h2
      cases v with
      | str y u => cases h1; exact ⟨t, rfl, of_decide_eq_true h3, of_decide_eq_true h4, h5⟩
      | _ => exact nn h1
    | tuple ds =>
      obtain ⟨a, h1, e⟩ := opt_of (o := refV v) (f := fun a => oB (h.get? a) fun o => oB (tupO o) fun vs => all2 (repH h tk k) ds vs.toList) e
      obtain ⟨o, h2, e⟩ := opt_of e
      obtain ⟨vs, h3, e⟩ := opt_of e
      have all : ∀ (ds : List PyData) (vs : List Value), all2 (repH h tk k) ds vs = true → Reps h [] tk ds vs := by
        intro ds
        induction ds with
        | nil => intro vs e; exact List.isEmpty_iff.mp e
        | cons d ds ih =>
          intro vs e
          cases vs with
          | nil => exact (Bool.false_ne_true e).elim
          | cons v vs =>
            obtain ⟨e1, e2⟩ := and2 (x := repH h tk k d v) (y := all2 (repH h tk k) ds vs) e
            exact ⟨v, vs, rfl, rep_h k d v e1, ih vs e2⟩
      have hv : v = .ref a := by
        cases v with
        | ref b => cases h1; rfl
        | _ => exact nn h1
      unfold tupO at h3
      by_cases hc : o.cls = .type "tuple"
      · rw [if_pos hc] at h3
        cases hd : o.data with
        | seq us n =>
          rw [hd] at h3
          cases h3
          exact ⟨a, o, vs, n, hv, List.not_mem_nil, h2, hc, rfl, hd, all _ _ e⟩
        | _ => rw [hd] at h3; exact nn h3
      · rw [if_neg hc] at h3; exact nn h3
    | _ => exact (Bool.false_ne_true e).elim

/-- what is looked at when the top has run: the built-ins' names are free, the tables stand -/
noncomputable def obs (tabs : List (String × PyData)) (t0 : Nat) (s : Shared) : Bool × Nat :=
  ((s.heap.get? mainGlobals).isSome && bnames.all (fun x => (s.heap.nsMap mainGlobals (Str.ofString x)).isNone) && tabs.all (fun q => oB (s.heap.nsMap mainGlobals (Str.ofString q.1)) fun v => repH s.heap t0 5 q.2 v), s.toks)

theorem nsMap_keep {h₀ h₁ : Heap} {a : Addr} (hk : ∀ b o, h₀.get? b = some o → h₁.get? b = some o) (hs : (h₀.get? a).isSome = true) : h₁.nsMap a = h₀.nsMap a := by
  obtain ⟨o, ho⟩ := Option.isSome_iff_exists.mp hs
  funext x
  unfold Heap.nsMap
  rw [ho, hk a o ho]

theorem obs_facts {tabs : List (String × PyData)} {t0 : Nat} {s₀ s₁ : Shared} {mg : Str → Option Value} (hk : ∀ b o, s₀.heap.get? b = some o → s₁.heap.get? b = some o) (g : s₁.heap.Ns mainGlobals mg) (e : obs tabs t0 s₀ = (true, t0)) :
    (∀ x ∈ bnames, mg (Str.ofString x) = none) ∧ (∀ q ∈ tabs, TabAt mg s₁.heap t0 q) ∧ s₀.toks = t0 := by
  have e1 := congrArg Prod.fst e
  obtain ⟨k1, k2, k3⟩ := and3 (x := (s₀.heap.get? mainGlobals).isSome) e1
  have em : mg = s₀.heap.nsMap mainGlobals := g.eq_nsMap.trans (nsMap_keep hk k1)
  refine ⟨fun x hx => ?_, fun q hq => ?_, congrArg Prod.snd e⟩
  · have := List.all_eq_true.mp k2 x hx
    rw [em]; exact Option.isNone_iff_eq_none.mp this
  · obtain ⟨v, h1, h2⟩ := opt_of (List.all_eq_true.mp k3 q hq)
    exact ⟨v, by rw [em]; exact h1, (rep_h 5 _ _ h2).carry (fun b o _ e => ⟨List.not_mem_nil, o.slots, hk b o e⟩) (Nat.le_refl _)⟩
theorem same_ref {mg : Str → Option Value} {x y : Str} {a b : Addr} (ha : mg x = some (.ref a)) (e : y = x) (hb : mg y = some (.ref b)) : a = b := by
  rw [e, ha] at hb
  injection hb with hb
  injection hb
end Mine

open PySem
set_option maxRecDepth 100000
set_option maxHeartbeats 4000000
set_option linter.unusedSimpArgs false
namespace Mine
noncomputable def B1 : QS := (.seq (.ret (.bo .Or (.cons (.cmp .Eq (.var "c") (.con (.str (Str.ofString "\r")))) (.cons (.cmp .Eq (.var "c") (.con (.str (Str.ofString "\n")))) .nil)))) .nil)
noncomputable def C1 : PC := mkC [] []
theorem C1_G : C1.G = look [] := rfl
theorem C1_F : C1.F = look [] := rfl
theorem C1_fuel : C1.fuel = LIM := rfl
noncomputable def f1 : List PyData → Out PyData := pcall C1 [Str.ofString "c"] B1
theorem f1_eq (c : Nat) : f1 [.str (tx [c])] = .ok (.bool (decide (c = 13 ∨ c = 10))) := by
  unfold f1 B1
  rw [pcall_fin _ _ _ _ rfl]
  simp -implicitDefEqProofs only [↓reduceIte, ↓pex_seq, pex_nil, pex_ret, pex_cont, pex_asg, pex_own, pex_pop, pex_cop, pex_app, pex_raise, pex_try, pex_frz, pex_if, pex_while, pex_frn, pex_rng, fq_ok, fq_exc, fk_next, fk_cont, fk_ret, fk_exc, fk_ite, fr_nil, pev_con, pev_var, pev_tab, pev_bin, pev_neg, pev_not, pev_bo, pev_cmp, pev_ty, pev_tup, pev_lst, pev_sub, pev_cut, pev_meth, pev_replC, pev_replV, pev_replD, pev_call, pev_len, pev_lenO, pev_lis, pevs_nil, pevs_cons, peo_no, peo_opt, ptest_eq, pbo_or, pbo_and, pbo_one, piter_l, piter_t, piter_s, prange_i, pvar_dat, ptab_some, plenO_dat, plenO_own, pfn_some, pstrV_str, frz1_own, frz1_dat, papp_own, pcop_list, ptry_ok, ptry_exc, ptry_bad, seqk_next, seqk_brk, seqk_cont, seqk_ret, seqk_exc, seqk_bad, seqk_ite, ifk_true, ifk_false, ifk_dec, ifk_not, ifk_exc, ifk_bad, ifk_ite, fink_ret, fink_next, fink_exc, fink_bad, fink_ite, upd_eq, upd_ne, bindPE_nil, bindPE_cons, none0_app, look_hit, look_ne, ok_bind, exc_bind, bad_bind, ite_bind, pcmp_eq_s, pcmp_ne_s, pcmp_eq_i, pcmp_ne_i, pcmp_lt, pcmp_gt, pcmp_ge, pbin_add_s, pbin_add_i, pbin_add_l, pbin_sub, pbin_mod, pbin_fdiv, pbool_b, pint_i, pstr_s, plen_s, plen_l, plen_t, plist_l, ofS_inj, String.reduceEq, String.reduceNe, List.zip_cons_cons, List.zip_nil_left, List.map_cons, List.map_nil, List.nil_append, List.append_nil, List.cons_append, ite_true, ite_false, decide_false, decide_true, Bool.not_true, Bool.not_false, or_true, true_or, or_false, false_or, or_self, and_self, and_true, true_and, and_false, false_and, not_true_eq_false, not_false_eq_true, reduceCtorEq, Bool.false_eq_true, Bool.true_eq_false, ← decide_not, decide_eq_true_eq, tx_inj, tx_len, ne_eq, Classical.not_not, eq13, eq10, eq1310, eq0, List.cons.injEq]
  by_cases h : c = 13 <;> simp [h, ok_bind, fink_ret]

noncomputable def B2 : QS := (.seq (.ite (.cmp .NotEq (.len (.var "dialect")) (.con (.int 3))) (.seq .raise .nil) .nil) (.seq (.asg "delimiter" (.sub (.var "dialect") (.con (.int 0)))) (.seq (.asg "quote" (.sub (.var "dialect") (.con (.int 1)))) (.seq (.asg "newline" (.sub (.var "dialect") (.con (.int 2)))) (.seq (.ite (.cmp .NotEq (.len (.var "delimiter")) (.con (.int 1))) (.seq .raise .nil) .nil) (.seq (.ite (.cmp .NotEq (.len (.var "quote")) (.con (.int 1))) (.seq .raise .nil) .nil) (.seq (.ite (.cmp .Eq (.var "delimiter") (.var "quote")) (.seq .raise .nil) .nil) (.seq (.ite (.call "_is_line_char" (.cons (.var "delimiter") .nil)) (.seq .raise .nil) .nil) (.seq (.ite (.call "_is_line_char" (.cons (.var "quote") .nil)) (.seq .raise .nil) .nil) (.seq (.ite (.bo .And (.cons (.cmp .NotEq (.var "newline") (.con (.str (Str.ofString "\n")))) (.cons (.cmp .NotEq (.var "newline") (.con (.str (Str.ofString "\r")))) (.cons (.cmp .NotEq (.var "newline") (.con (.str (Str.ofString "\r\n")))) .nil)))) (.seq .raise .nil) .nil) (.seq (.ret (.tup (.cons (.var "delimiter") (.cons (.var "quote") (.cons (.var "newline") .nil))))) .nil)))))))))))
noncomputable def C2 : PC := mkC [] [("_is_line_char", f1)]
theorem C2_G : C2.G = look [] := rfl
theorem C2_F : C2.F = look [("_is_line_char", f1)] := rfl
theorem C2_fuel : C2.fuel = LIM := rfl
noncomputable def f2 : List PyData → Out PyData := pcall C2 [Str.ofString "dialect"] B2
noncomputable def okDia : List (List Nat) → Bool
  | [[d], [q], nl] => decide (d ≠ q) && decide (d ≠ 13) && decide (d ≠ 10) && decide (q ≠ 13) && decide (q ≠ 10) && (decide (nl = [10]) || decide (nl = [13]) || decide (nl = [13, 10]))
  | _ => false
theorem f2_short (l : List PyData) (h : l.length ≠ 3) (h2 : l.length ≤ LIM) : f2 [.tuple l] = .exc := by
  unfold f2 B2
  rw [pcall_fin _ _ _ _ rfl]
  have e : ¬ ((l.length : Int) = 3) := by omega
  simp -implicitDefEqProofs only [↓reduceIte, ↓pex_seq, pex_nil, pex_ret, pex_cont, pex_asg, pex_own, pex_pop, pex_cop, pex_app, pex_raise, pex_try, pex_frz, pex_if, pex_while, pex_frn, pex_rng, fq_ok, fq_exc, fk_next, fk_cont, fk_ret, fk_exc, fk_ite, fr_nil, pev_con, pev_var, pev_tab, pev_bin, pev_neg, pev_not, pev_bo, pev_cmp, pev_ty, pev_tup, pev_lst, pev_sub, pev_cut, pev_meth, pev_replC, pev_replV, pev_replD, pev_call, pev_len, pev_lenO, pev_lis, pevs_nil, pevs_cons, peo_no, peo_opt, ptest_eq, pbo_or, pbo_and, pbo_one, piter_l, piter_t, piter_s, prange_i, pvar_dat, ptab_some, plenO_dat, plenO_own, pfn_some, pstrV_str, frz1_own, frz1_dat, papp_own, pcop_list, ptry_ok, ptry_exc, ptry_bad, seqk_next, seqk_brk, seqk_cont, seqk_ret, seqk_exc, seqk_bad, seqk_ite, ifk_true, ifk_false, ifk_dec, ifk_not, ifk_exc, ifk_bad, ifk_ite, fink_ret, fink_next, fink_exc, fink_bad, fink_ite, upd_eq, upd_ne, bindPE_nil, bindPE_cons, none0_app, look_hit, look_ne, ok_bind, exc_bind, bad_bind, ite_bind, pcmp_eq_s, pcmp_ne_s, pcmp_eq_i, pcmp_ne_i, pcmp_lt, pcmp_gt, pcmp_ge, pbin_add_s, pbin_add_i, pbin_add_l, pbin_sub, pbin_mod, pbin_fdiv, pbool_b, pint_i, pstr_s, plen_s, plen_l, plen_t, plist_l, ofS_inj, String.reduceEq, String.reduceNe, List.zip_cons_cons, List.zip_nil_left, List.map_cons, List.map_nil, List.nil_append, List.append_nil, List.cons_append, ite_true, ite_false, decide_false, decide_true, Bool.not_true, Bool.not_false, or_true, true_or, or_false, false_or, or_self, and_self, and_true, true_and, and_false, false_and, not_true_eq_false, not_false_eq_true, reduceCtorEq, Bool.false_eq_true, Bool.true_eq_false, ← decide_not, decide_eq_true_eq, tx_inj, tx_len, ne_eq, Classical.not_not, eq13, eq10, eq1310, eq0, List.cons.injEq, C2_G, C2_F, e, h2]
theorem f2_eq (a b c : List Nat) (ha : a.length ≤ LIM) (hb : b.length ≤ LIM) : f2 [.tuple [.str (tx a), .str (tx b), .str (tx c)]] = if okDia [a, b, c] = true then .ok (.tuple [.str (tx a), .str (tx b), .str (tx c)]) else .exc := by
  unfold f2 B2
  rw [pcall_fin _ _ _ _ rfl]
  have h3 : ((([.str (tx a), .str (tx b), .str (tx c)] : List PyData).length : Int) = 3) = True := by simp
  have hl : (([.str (tx a), .str (tx b), .str (tx c)] : List PyData).length ≤ LIM) = True := by simp [LIM]
  have i0 : pitem (.tuple [.str (tx a), .str (tx b), .str (tx c)]) 0 = .ok (.str (tx a)) := pitem_tuple _ 0 _ rfl (by decide)
  have i1 : pitem (.tuple [.str (tx a), .str (tx b), .str (tx c)]) 1 = .ok (.str (tx b)) := pitem_tuple _ 1 _ rfl (by decide)
  have i2 : pitem (.tuple [.str (tx a), .str (tx b), .str (tx c)]) 2 = .ok (.str (tx c)) := pitem_tuple _ 2 _ rfl (by decide)
  by_cases h1 : ((a.length : Int) = 1)
  rotate_left
  · simp -implicitDefEqProofs only [↓reduceIte, ↓pex_seq, pex_nil, pex_ret, pex_cont, pex_asg, pex_own, pex_pop, pex_cop, pex_app, pex_raise, pex_try, pex_frz, pex_if, pex_while, pex_frn, pex_rng, fq_ok, fq_exc, fk_next, fk_cont, fk_ret, fk_exc, fk_ite, fr_nil, pev_con, pev_var, pev_tab, pev_bin, pev_neg, pev_not, pev_bo, pev_cmp, pev_ty, pev_tup, pev_lst, pev_sub, pev_cut, pev_meth, pev_replC, pev_replV, pev_replD, pev_call, pev_len, pev_lenO, pev_lis, pevs_nil, pevs_cons, peo_no, peo_opt, ptest_eq, pbo_or, pbo_and, pbo_one, piter_l, piter_t, piter_s, prange_i, pvar_dat, ptab_some, plenO_dat, plenO_own, pfn_some, pstrV_str, frz1_own, frz1_dat, papp_own, pcop_list, ptry_ok, ptry_exc, ptry_bad, seqk_next, seqk_brk, seqk_cont, seqk_ret, seqk_exc, seqk_bad, seqk_ite, ifk_true, ifk_false, ifk_dec, ifk_not, ifk_exc, ifk_bad, ifk_ite, fink_ret, fink_next, fink_exc, fink_bad, fink_ite, upd_eq, upd_ne, bindPE_nil, bindPE_cons, none0_app, look_hit, look_ne, ok_bind, exc_bind, bad_bind, ite_bind, pcmp_eq_s, pcmp_ne_s, pcmp_eq_i, pcmp_ne_i, pcmp_lt, pcmp_gt, pcmp_ge, pbin_add_s, pbin_add_i, pbin_add_l, pbin_sub, pbin_mod, pbin_fdiv, pbool_b, pint_i, pstr_s, plen_s, plen_l, plen_t, plist_l, ofS_inj, String.reduceEq, String.reduceNe, List.zip_cons_cons, List.zip_nil_left, List.map_cons, List.map_nil, List.nil_append, List.append_nil, List.cons_append, ite_true, ite_false, decide_false, decide_true, Bool.not_true, Bool.not_false, or_true, true_or, or_false, false_or, or_self, and_self, and_true, true_and, and_false, false_and, not_true_eq_false, not_false_eq_true, reduceCtorEq, Bool.false_eq_true, Bool.true_eq_false, ← decide_not, decide_eq_true_eq, tx_inj, tx_len, ne_eq, Classical.not_not, eq13, eq10, eq1310, eq0, List.cons.injEq, C2_G, C2_F, h3, hl, i0, i1, i2, ha, hb, h1]
    rw [if_neg]
    intro h; unfold okDia at h; split at h
    · rename_i e; simp at e; obtain ⟨rfl, _⟩ := e; simp at h1
    · cases h
  by_cases h2 : ((b.length : Int) = 1)
  rotate_left
  · simp -implicitDefEqProofs only [↓reduceIte, ↓pex_seq, pex_nil, pex_ret, pex_cont, pex_asg, pex_own, pex_pop, pex_cop, pex_app, pex_raise, pex_try, pex_frz, pex_if, pex_while, pex_frn, pex_rng, fq_ok, fq_exc, fk_next, fk_cont, fk_ret, fk_exc, fk_ite, fr_nil, pev_con, pev_var, pev_tab, pev_bin, pev_neg, pev_not, pev_bo, pev_cmp, pev_ty, pev_tup, pev_lst, pev_sub, pev_cut, pev_meth, pev_replC, pev_replV, pev_replD, pev_call, pev_len, pev_lenO, pev_lis, pevs_nil, pevs_cons, peo_no, peo_opt, ptest_eq, pbo_or, pbo_and, pbo_one, piter_l, piter_t, piter_s, prange_i, pvar_dat, ptab_some, plenO_dat, plenO_own, pfn_some, pstrV_str, frz1_own, frz1_dat, papp_own, pcop_list, ptry_ok, ptry_exc, ptry_bad, seqk_next, seqk_brk, seqk_cont, seqk_ret, seqk_exc, seqk_bad, seqk_ite, ifk_true, ifk_false, ifk_dec, ifk_not, ifk_exc, ifk_bad, ifk_ite, fink_ret, fink_next, fink_exc, fink_bad, fink_ite, upd_eq, upd_ne, bindPE_nil, bindPE_cons, none0_app, look_hit, look_ne, ok_bind, exc_bind, bad_bind, ite_bind, pcmp_eq_s, pcmp_ne_s, pcmp_eq_i, pcmp_ne_i, pcmp_lt, pcmp_gt, pcmp_ge, pbin_add_s, pbin_add_i, pbin_add_l, pbin_sub, pbin_mod, pbin_fdiv, pbool_b, pint_i, pstr_s, plen_s, plen_l, plen_t, plist_l, ofS_inj, String.reduceEq, String.reduceNe, List.zip_cons_cons, List.zip_nil_left, List.map_cons, List.map_nil, List.nil_append, List.append_nil, List.cons_append, ite_true, ite_false, decide_false, decide_true, Bool.not_true, Bool.not_false, or_true, true_or, or_false, false_or, or_self, and_self, and_true, true_and, and_false, false_and, not_true_eq_false, not_false_eq_true, reduceCtorEq, Bool.false_eq_true, Bool.true_eq_false, ← decide_not, decide_eq_true_eq, tx_inj, tx_len, ne_eq, Classical.not_not, eq13, eq10, eq1310, eq0, List.cons.injEq, C2_G, C2_F, h3, hl, i0, i1, i2, ha, hb, h1, h2]
    rw [if_neg]
    intro h; unfold okDia at h; split at h
    · rename_i e; simp at e; obtain ⟨_, rfl, _⟩ := e; simp at h2
    · cases h
  obtain ⟨d, rfl⟩ : ∃ d, a = [d] := List.length_eq_one_iff.mp (by omega)
  obtain ⟨q, rfl⟩ : ∃ d, b = [d] := List.length_eq_one_iff.mp (by omega)
  simp -implicitDefEqProofs only [↓reduceIte, ↓pex_seq, pex_nil, pex_ret, pex_cont, pex_asg, pex_own, pex_pop, pex_cop, pex_app, pex_raise, pex_try, pex_frz, pex_if, pex_while, pex_frn, pex_rng, fq_ok, fq_exc, fk_next, fk_cont, fk_ret, fk_exc, fk_ite, fr_nil, pev_con, pev_var, pev_tab, pev_bin, pev_neg, pev_not, pev_bo, pev_cmp, pev_ty, pev_tup, pev_lst, pev_sub, pev_cut, pev_meth, pev_replC, pev_replV, pev_replD, pev_call, pev_len, pev_lenO, pev_lis, pevs_nil, pevs_cons, peo_no, peo_opt, ptest_eq, pbo_or, pbo_and, pbo_one, piter_l, piter_t, piter_s, prange_i, pvar_dat, ptab_some, plenO_dat, plenO_own, pfn_some, pstrV_str, frz1_own, frz1_dat, papp_own, pcop_list, ptry_ok, ptry_exc, ptry_bad, seqk_next, seqk_brk, seqk_cont, seqk_ret, seqk_exc, seqk_bad, seqk_ite, ifk_true, ifk_false, ifk_dec, ifk_not, ifk_exc, ifk_bad, ifk_ite, fink_ret, fink_next, fink_exc, fink_bad, fink_ite, upd_eq, upd_ne, bindPE_nil, bindPE_cons, none0_app, look_hit, look_ne, ok_bind, exc_bind, bad_bind, ite_bind, pcmp_eq_s, pcmp_ne_s, pcmp_eq_i, pcmp_ne_i, pcmp_lt, pcmp_gt, pcmp_ge, pbin_add_s, pbin_add_i, pbin_add_l, pbin_sub, pbin_mod, pbin_fdiv, pbool_b, pint_i, pstr_s, plen_s, plen_l, plen_t, plist_l, ofS_inj, String.reduceEq, String.reduceNe, List.zip_cons_cons, List.zip_nil_left, List.map_cons, List.map_nil, List.nil_append, List.append_nil, List.cons_append, ite_true, ite_false, decide_false, decide_true, Bool.not_true, Bool.not_false, or_true, true_or, or_false, false_or, or_self, and_self, and_true, true_and, and_false, false_and, not_true_eq_false, not_false_eq_true, reduceCtorEq, Bool.false_eq_true, Bool.true_eq_false, ← decide_not, decide_eq_true_eq, tx_inj, tx_len, ne_eq, Classical.not_not, eq13, eq10, eq1310, eq0, List.cons.injEq, C2_G, C2_F, h3, hl, i0, i1, i2, ha, hb, h1, h2, f1_eq]
  by_cases k1 : d = q
  · simp [k1, okDia]
  by_cases k2 : d = 13 ∨ d = 10
  · rcases k2 with k2 | k2 <;> simp [k1, k2, okDia]
  by_cases k3 : q = 13 ∨ q = 10
  · rcases k3 with k3 | k3 <;> simp [k1, k2, k3, okDia]
  rw [not_or] at k2 k3
  by_cases k4 : c = [10] <;> by_cases k5 : c = [13] <;> by_cases k6 : c = [13, 10] <;> simp [k1, k2.1, k2.2, k3.1, k3.2, k4, k5, k6, okDia]
end Mine

open PySem
set_option maxRecDepth 100000
set_option maxHeartbeats 4000000
set_option linter.unusedSimpArgs false
namespace Mine
noncomputable def R4 : QS := (.seq (.ite (.cmp .Eq (.var "state") (.con (.str (Str.ofString "in")))) (.seq .raise .nil) .nil) (.seq (.ite (.bo .Or (.cons (.cmp .Gt (.lenO "row") (.con (.int 0))) (.cons (.cmp .NotEq (.var "state") (.con (.str (Str.ofString "start")))) .nil))) (.seq (.frz "field" (.app "row" (.meth .join (.con (.str (Str.ofString ""))) (.var "field")))) (.seq (.frz "row" (.app "rows" (.var "row"))) .nil)) .nil) (.seq (.frz "rows" (.ret (.var "rows"))) .nil)))
noncomputable def W4c : QS := (.seq (.ite (.cmp .Eq (.var "state") (.con (.str (Str.ofString "after")))) (.seq .raise .nil) .nil) (.seq (.ite (.cmp .Eq (.var "c") (.var "quote")) (.seq (.ite (.cmp .Eq (.var "state") (.con (.str (Str.ofString "start")))) (.seq (.asg "state" (.con (.str (Str.ofString "in")))) (.seq .cont .nil)) .nil) (.seq .raise .nil)) .nil) (.seq (.app "field" (.var "c")) (.seq (.asg "state" (.con (.str (Str.ofString "plain")))) .nil))))
noncomputable def W4n : QS := (.seq (.frz "field" (.app "row" (.meth .join (.con (.str (Str.ofString ""))) (.var "field")))) (.seq (.frz "row" (.app "rows" (.var "row"))) (.seq (.own "row" .nil) (.seq (.own "field" .nil) (.seq (.asg "state" (.con (.str (Str.ofString "start")))) (.seq .cont .nil))))))
noncomputable def W4b : QS := (.seq (.ite (.bo .Or (.cons (.cmp .Eq (.var "c") (.con (.str (Str.ofString "\r")))) (.cons (.cmp .Eq (.var "c") (.con (.str (Str.ofString "\n")))) .nil))) (.seq (.ite (.bo .And (.cons (.cmp .Eq (.var "c") (.con (.str (Str.ofString "\r")))) (.cons (.cmp .Lt (.var "i") (.var "n")) (.cons (.cmp .Eq (.sub (.var "text") (.var "i")) (.con (.str (Str.ofString "\n")))) .nil)))) (.seq (.asg "i" (.bin .Add (.var "i") (.con (.int 1)))) .nil) .nil) W4n) .nil) W4c)
noncomputable def W4a : QS := (.seq (.ite (.cmp .Eq (.var "c") (.var "delimiter")) (.seq (.frz "field" (.app "row" (.meth .join (.con (.str (Str.ofString ""))) (.var "field")))) (.seq (.own "field" .nil) (.seq (.asg "state" (.con (.str (Str.ofString "start")))) (.seq .cont .nil)))) .nil) W4b)
noncomputable def W4t : QE := (.cmp .Lt (.var "i") (.var "n"))
noncomputable def W4 : QS := (.seq (.asg "c" (.sub (.var "text") (.var "i"))) (.seq (.asg "i" (.bin .Add (.var "i") (.con (.int 1)))) (.seq (.ite (.cmp .Eq (.var "state") (.con (.str (Str.ofString "in")))) (.seq (.ite (.cmp .Eq (.var "c") (.var "quote")) (.seq (.ite (.bo .And (.cons (.cmp .Lt (.var "i") (.var "n")) (.cons (.cmp .Eq (.sub (.var "text") (.var "i")) (.var "quote")) .nil))) (.seq (.app "field" (.var "quote")) (.seq (.asg "i" (.bin .Add (.var "i") (.con (.int 1)))) .nil)) (.seq (.asg "state" (.con (.str (Str.ofString "after")))) .nil)) .nil) (.seq (.app "field" (.var "c")) .nil)) (.seq .cont .nil)) .nil) W4a)))
noncomputable def B4 : QS := (.seq (.asg "checked" (.call "_check_dialect" (.cons (.var "dialect") .nil))) (.seq (.asg "delimiter" (.sub (.var "checked") (.con (.int 0)))) (.seq (.asg "quote" (.sub (.var "checked") (.con (.int 1)))) (.seq (.own "rows" .nil) (.seq (.own "row" .nil) (.seq (.own "field" .nil) (.seq (.asg "state" (.con (.str (Str.ofString "start")))) (.seq (.asg "i" (.con (.int 0))) (.seq (.asg "n" (.len (.var "text"))) (.seq (.wh W4t W4) R4))))))))))
noncomputable def C4 : PC := mkC [] [("_check_dialect", f2)]
theorem C4_G : C4.G = look [] := rfl
theorem C4_F : C4.F = look [("_check_dialect", f2)] := rfl
theorem C4_fuel : C4.fuel = LIM := rfl
noncomputable def f4 : List PyData → Out PyData := pcall C4 [Str.ofString "text", Str.ofString "dialect"] B4
structure Iv (d q : Nat) (txt : List Nat) (ρ : PE) (st : PS) (f : List Nat) (r : List (List Nat)) (R : Tab) (k : Nat) : Prop where
  text : ρ (Str.ofString "text") = some (.dat (.str (tx txt)))
  dl : ρ (Str.ofString "delimiter") = some (.dat (.str (tx [d])))
  qu : ρ (Str.ofString "quote") = some (.dat (.str (tx [q])))
  rows : ρ (Str.ofString "rows") = some (.own (R.map rowd))
  row : ρ (Str.ofString "row") = some (.own (r.map txd))
  field : ρ (Str.ofString "field") = some (.own (f.map ch))
  state : ρ (Str.ofString "state") = some (.dat (.str st.nm))
  i : ρ (Str.ofString "i") = some (.dat (.int k))
  n : ρ (Str.ofString "n") = some (.dat (.int txt.length))
structure Ln4 (f : List Nat) (r : List (List Nat)) (R : Tab) (k : Nat) : Prop where
  lf : f.length ≤ k
  lr : r.length ≤ k
  lR : R.length ≤ k
structure Inv (d q : Nat) (txt : List Nat) (ρ : PE) (st : PS) (f : List Nat) (r : List (List Nat)) (R : Tab) (k : Nat) : Prop extends Iv d q txt ρ st f r R k, Ln4 f r R k
theorem Ln4.up {f r R k j} (h : Ln4 f r R k) (hj : k ≤ j) : Ln4 f r R j := ⟨Nat.le_trans h.lf hj, Nat.le_trans h.lr hj, Nat.le_trans h.lR hj⟩
theorem Ln4.more {f r R k} (c : Nat) (h : Ln4 f r R k) : Ln4 (f ++ [c]) r R (k + 1) := ⟨by rw [List.length_append]; exact Nat.succ_le_succ h.lf, Nat.le_succ_of_le h.lr, Nat.le_succ_of_le h.lR⟩
theorem Ln4.cell {f r R k} (h : Ln4 f r R k) : Ln4 [] (r ++ [f]) R (k + 1) := ⟨Nat.zero_le _, by rw [List.length_append]; exact Nat.succ_le_succ h.lr, Nat.le_succ_of_le h.lR⟩
theorem Ln4.line {f r R k} (h : Ln4 f r R k) : Ln4 [] [] (R ++ [r ++ [f]]) (k + 1) := ⟨Nat.zero_le _, Nat.zero_le _, by rw [List.length_append]; exact Nat.succ_le_succ h.lR⟩
theorem Ln4.nil {k} : Ln4 [] [] [] k := ⟨Nat.zero_le _, Nat.zero_le _, Nat.zero_le _⟩
section
variable {d q c k : Nat} {txt : List Nat} {ρ : PE} {st : PS} {f : List Nat} {r : List (List Nat)} {R : Tab}
theorem len4 {α β : Type} (g : α → β) {l : List α} {k : Nat} (h : l.length ≤ k) (hk : k < 1000000) : ((l.map g).length < LIM) = True :=
  eq_true (by rw [List.length_map]; exact Nat.lt_trans (Nat.lt_of_le_of_lt h hk) (by decide))
theorem joi4 (h : f.length ≤ k) (hk : k < 1000000) : pmeth .join (Str.ofString "") (.list (f.map ch)) = .ok (txd f) := by
  rw [s0]; exact pmeth_join_ch f (Nat.le_trans h (Nat.le_of_lt (Nat.lt_trans hk (by decide))))
theorem nil4 : (([] : List PyData).length ≤ LIM) = True := eq_true (Nat.zero_le _)
theorem Iv.pre (J : Iv d q txt ρ st f r R k) (v : LV) : Iv d q txt (upd (upd ρ (Str.ofString "c") v) (Str.ofString "i") (.dat (.int ((k + 1 : Nat) : Int)))) st f r R (k + 1) := by
  constructor <;> simp -implicitDefEqProofs only [upd_eq, upd_ne, String.reduceEq, not_false_eq_true, J.text, J.dl, J.qu, J.rows, J.row, J.field, J.state, J.i, J.n]
theorem Iv.skip (J : Iv d q txt ρ st f r R k) : Iv d q txt (upd ρ (Str.ofString "i") (.dat (.int ((k + 1 : Nat) : Int)))) st f r R (k + 1) := by
  constructor <;> simp -implicitDefEqProofs only [upd_eq, upd_ne, String.reduceEq, not_false_eq_true, J.text, J.dl, J.qu, J.rows, J.row, J.field, J.state, J.i, J.n]
theorem succ4 : ((k : Int) + 1) = ((k + 1 : Nat) : Int) := by omega
theorem w4_pre (J : Iv d q txt ρ st f r R k) (p0 : pitem (.str (tx txt)) (k : Int) = .ok (.str (tx [c]))) (h : ¬ st.nm = Str.ofString "in") :
    pex C4 W4 ρ = pex C4 W4a (upd (upd ρ (Str.ofString "c") (.dat (.str (tx [c])))) (Str.ofString "i") (.dat (.int ((k + 1 : Nat) : Int)))) := by
  unfold W4
  simp -implicitDefEqProofs only [↓reduceIte, ↓pex_seq, pex_nil, pex_ret, pex_cont, pex_asg, pex_own, pex_pop, pex_cop, pex_app, pex_raise, pex_try, pex_frz, pex_if, pex_while, pex_frn, pex_rng, fq_ok, fq_exc, fk_next, fk_cont, fk_ret, fk_exc, fk_ite, fr_nil, pev_con, pev_var, pev_tab, pev_bin, pev_neg, pev_not, pev_bo, pev_cmp, pev_ty, pev_tup, pev_lst, pev_sub, pev_cut, pev_meth, pev_replC, pev_replV, pev_replD, pev_call, pev_len, pev_lenO, pev_lis, pevs_nil, pevs_cons, peo_no, peo_opt, ptest_eq, pbo_or, pbo_and, pbo_one, piter_l, piter_t, piter_s, prange_i, pvar_dat, ptab_some, plenO_dat, plenO_own, pfn_some, pstrV_str, frz1_own, frz1_dat, papp_own, pcop_list, ptry_ok, ptry_exc, ptry_bad, seqk_next, seqk_brk, seqk_cont, seqk_ret, seqk_exc, seqk_bad, seqk_ite, ifk_true, ifk_false, ifk_dec, ifk_not, ifk_exc, ifk_bad, ifk_ite, fink_ret, fink_next, fink_exc, fink_bad, fink_ite, upd_eq, upd_ne, bindPE_nil, bindPE_cons, none0_app, look_hit, look_ne, ok_bind, exc_bind, bad_bind, ite_bind, pcmp_eq_s, pcmp_ne_s, pcmp_eq_i, pcmp_ne_i, pcmp_lt, pcmp_gt, pcmp_ge, pbin_add_s, pbin_add_i, pbin_add_l, pbin_sub, pbin_mod, pbin_fdiv, pbool_b, pint_i, pstr_s, plen_s, plen_l, plen_t, plist_l, ofS_inj, String.reduceEq, String.reduceNe, List.zip_cons_cons, List.zip_nil_left, List.map_cons, List.map_nil, List.nil_append, List.append_nil, List.cons_append, ite_true, ite_false, decide_false, decide_true, Bool.not_true, Bool.not_false, or_true, true_or, or_false, false_or, or_self, and_self, and_true, true_and, and_false, false_and, not_true_eq_false, not_false_eq_true, reduceCtorEq, Bool.false_eq_true, Bool.true_eq_false, ← decide_not, decide_eq_true_eq, tx_inj, tx_len, ne_eq, Classical.not_not, eq13, eq10, eq1310, eq0, List.cons.injEq, C4_G, C4_F, J.text, J.i, J.state, p0, succ4, h]
theorem w4_d (J : Iv d q txt ρ st f r R k) (hc : ρ (Str.ofString "c") = some (.dat (.str (tx [d])))) (l : Ln4 f r R k) (hk : k < 1000000) : ∃ ρ', pex C4 W4a ρ = .ok (.cont, ρ') ∧ Iv d q txt ρ' .start [] (r ++ [f]) R k := by
  have e2 := len4 txd l.lr hk
  have j1 := joi4 l.lf hk
  unfold W4a
  simp -implicitDefEqProofs only [↓reduceIte, ↓pex_seq, pex_nil, pex_ret, pex_cont, pex_asg, pex_own, pex_pop, pex_cop, pex_app, pex_raise, pex_try, pex_frz, pex_if, pex_while, pex_frn, pex_rng, fq_ok, fq_exc, fk_next, fk_cont, fk_ret, fk_exc, fk_ite, fr_nil, pev_con, pev_var, pev_tab, pev_bin, pev_neg, pev_not, pev_bo, pev_cmp, pev_ty, pev_tup, pev_lst, pev_sub, pev_cut, pev_meth, pev_replC, pev_replV, pev_replD, pev_call, pev_len, pev_lenO, pev_lis, pevs_nil, pevs_cons, peo_no, peo_opt, ptest_eq, pbo_or, pbo_and, pbo_one, piter_l, piter_t, piter_s, prange_i, pvar_dat, ptab_some, plenO_dat, plenO_own, pfn_some, pstrV_str, frz1_own, frz1_dat, papp_own, pcop_list, ptry_ok, ptry_exc, ptry_bad, seqk_next, seqk_brk, seqk_cont, seqk_ret, seqk_exc, seqk_bad, seqk_ite, ifk_true, ifk_false, ifk_dec, ifk_not, ifk_exc, ifk_bad, ifk_ite, fink_ret, fink_next, fink_exc, fink_bad, fink_ite, upd_eq, upd_ne, bindPE_nil, bindPE_cons, none0_app, look_hit, look_ne, ok_bind, exc_bind, bad_bind, ite_bind, pcmp_eq_s, pcmp_ne_s, pcmp_eq_i, pcmp_ne_i, pcmp_lt, pcmp_gt, pcmp_ge, pbin_add_s, pbin_add_i, pbin_add_l, pbin_sub, pbin_mod, pbin_fdiv, pbool_b, pint_i, pstr_s, plen_s, plen_l, plen_t, plist_l, ofS_inj, String.reduceEq, String.reduceNe, List.zip_cons_cons, List.zip_nil_left, List.map_cons, List.map_nil, List.nil_append, List.append_nil, List.cons_append, ite_true, ite_false, decide_false, decide_true, Bool.not_true, Bool.not_false, or_true, true_or, or_false, false_or, or_self, and_self, and_true, true_and, and_false, false_and, not_true_eq_false, not_false_eq_true, reduceCtorEq, Bool.false_eq_true, Bool.true_eq_false, ← decide_not, decide_eq_true_eq, tx_inj, tx_len, ne_eq, Classical.not_not, eq13, eq10, eq1310, eq0, List.cons.injEq, C4_G, C4_F, J.dl, J.row, J.field, hc, e2, j1, nil4]
  refine ⟨_, rfl, ?_⟩
  constructor <;> simp -implicitDefEqProofs only [upd_eq, upd_ne, String.reduceEq, not_false_eq_true, J.text, J.dl, J.qu, J.rows, J.row, J.field, J.state, J.i, J.n, PS.nm, List.map_append, List.map_cons, List.map_nil]
theorem w4_a (J : Iv d q txt ρ st f r R k) (hc : ρ (Str.ofString "c") = some (.dat (.str (tx [c])))) (h : ¬ c = d) : pex C4 W4a ρ = pex C4 W4b ρ := by
  unfold W4a
  simp -implicitDefEqProofs only [↓reduceIte, ↓pex_seq, pex_nil, pex_ret, pex_cont, pex_asg, pex_own, pex_pop, pex_cop, pex_app, pex_raise, pex_try, pex_frz, pex_if, pex_while, pex_frn, pex_rng, fq_ok, fq_exc, fk_next, fk_cont, fk_ret, fk_exc, fk_ite, fr_nil, pev_con, pev_var, pev_tab, pev_bin, pev_neg, pev_not, pev_bo, pev_cmp, pev_ty, pev_tup, pev_lst, pev_sub, pev_cut, pev_meth, pev_replC, pev_replV, pev_replD, pev_call, pev_len, pev_lenO, pev_lis, pevs_nil, pevs_cons, peo_no, peo_opt, ptest_eq, pbo_or, pbo_and, pbo_one, piter_l, piter_t, piter_s, prange_i, pvar_dat, ptab_some, plenO_dat, plenO_own, pfn_some, pstrV_str, frz1_own, frz1_dat, papp_own, pcop_list, ptry_ok, ptry_exc, ptry_bad, seqk_next, seqk_brk, seqk_cont, seqk_ret, seqk_exc, seqk_bad, seqk_ite, ifk_true, ifk_false, ifk_dec, ifk_not, ifk_exc, ifk_bad, ifk_ite, fink_ret, fink_next, fink_exc, fink_bad, fink_ite, upd_eq, upd_ne, bindPE_nil, bindPE_cons, none0_app, look_hit, look_ne, ok_bind, exc_bind, bad_bind, ite_bind, pcmp_eq_s, pcmp_ne_s, pcmp_eq_i, pcmp_ne_i, pcmp_lt, pcmp_gt, pcmp_ge, pbin_add_s, pbin_add_i, pbin_add_l, pbin_sub, pbin_mod, pbin_fdiv, pbool_b, pint_i, pstr_s, plen_s, plen_l, plen_t, plist_l, ofS_inj, String.reduceEq, String.reduceNe, List.zip_cons_cons, List.zip_nil_left, List.map_cons, List.map_nil, List.nil_append, List.append_nil, List.cons_append, ite_true, ite_false, decide_false, decide_true, Bool.not_true, Bool.not_false, or_true, true_or, or_false, false_or, or_self, and_self, and_true, true_and, and_false, false_and, not_true_eq_false, not_false_eq_true, reduceCtorEq, Bool.false_eq_true, Bool.true_eq_false, ← decide_not, decide_eq_true_eq, tx_inj, tx_len, ne_eq, Classical.not_not, eq13, eq10, eq1310, eq0, List.cons.injEq, C4_G, C4_F, J.dl, hc, h]
theorem w4_n (J : Iv d q txt ρ st f r R k) (l : Ln4 f r R k) (hk : k < 1000000) : ∃ ρ', pex C4 W4n ρ = .ok (.cont, ρ') ∧ Iv d q txt ρ' .start [] [] (R ++ [r ++ [f]]) k := by
  have e2 := len4 txd l.lr hk
  have e3 := len4 rowd l.lR hk
  have j1 := joi4 l.lf hk
  unfold W4n
  simp -implicitDefEqProofs only [↓reduceIte, ↓pex_seq, pex_nil, pex_ret, pex_cont, pex_asg, pex_own, pex_pop, pex_cop, pex_app, pex_raise, pex_try, pex_frz, pex_if, pex_while, pex_frn, pex_rng, fq_ok, fq_exc, fk_next, fk_cont, fk_ret, fk_exc, fk_ite, fr_nil, pev_con, pev_var, pev_tab, pev_bin, pev_neg, pev_not, pev_bo, pev_cmp, pev_ty, pev_tup, pev_lst, pev_sub, pev_cut, pev_meth, pev_replC, pev_replV, pev_replD, pev_call, pev_len, pev_lenO, pev_lis, pevs_nil, pevs_cons, peo_no, peo_opt, ptest_eq, pbo_or, pbo_and, pbo_one, piter_l, piter_t, piter_s, prange_i, pvar_dat, ptab_some, plenO_dat, plenO_own, pfn_some, pstrV_str, frz1_own, frz1_dat, papp_own, pcop_list, ptry_ok, ptry_exc, ptry_bad, seqk_next, seqk_brk, seqk_cont, seqk_ret, seqk_exc, seqk_bad, seqk_ite, ifk_true, ifk_false, ifk_dec, ifk_not, ifk_exc, ifk_bad, ifk_ite, fink_ret, fink_next, fink_exc, fink_bad, fink_ite, upd_eq, upd_ne, bindPE_nil, bindPE_cons, none0_app, look_hit, look_ne, ok_bind, exc_bind, bad_bind, ite_bind, pcmp_eq_s, pcmp_ne_s, pcmp_eq_i, pcmp_ne_i, pcmp_lt, pcmp_gt, pcmp_ge, pbin_add_s, pbin_add_i, pbin_add_l, pbin_sub, pbin_mod, pbin_fdiv, pbool_b, pint_i, pstr_s, plen_s, plen_l, plen_t, plist_l, ofS_inj, String.reduceEq, String.reduceNe, List.zip_cons_cons, List.zip_nil_left, List.map_cons, List.map_nil, List.nil_append, List.append_nil, List.cons_append, ite_true, ite_false, decide_false, decide_true, Bool.not_true, Bool.not_false, or_true, true_or, or_false, false_or, or_self, and_self, and_true, true_and, and_false, false_and, not_true_eq_false, not_false_eq_true, reduceCtorEq, Bool.false_eq_true, Bool.true_eq_false, ← decide_not, decide_eq_true_eq, tx_inj, tx_len, ne_eq, Classical.not_not, eq13, eq10, eq1310, eq0, List.cons.injEq, C4_G, C4_F, J.row, J.rows, J.field, e2, e3, j1, nil4]
  refine ⟨_, rfl, ?_⟩
  constructor <;> simp -implicitDefEqProofs only [upd_eq, upd_ne, String.reduceEq, not_false_eq_true, J.text, J.dl, J.qu, J.rows, J.row, J.field, J.state, J.i, J.n, PS.nm, rowd, List.map_append, List.map_cons, List.map_nil]
theorem w4_nl (J : Iv d q txt ρ st f r R k) (hc : ρ (Str.ofString "c") = some (.dat (.str (tx [c])))) (h : c = 13 ∨ c = 10) (hk : k < 1000000) :
    seqk C4 W4c (pex C4 W4n (if c = 13 ∧ txt[k]? = some 10 then upd ρ (Str.ofString "i") (.dat (.int ((k + 1 : Nat) : Int))) else ρ)) = pex C4 W4b ρ := by
  unfold W4b
  by_cases h3 : c = 13
  · subst h3
    cases hx : txt[k]? with
    | none =>
      have hlt : ¬ ((k : Int) < (txt.length : Int)) := by rw [List.getElem?_eq_none_iff] at hx; omega
      simp -implicitDefEqProofs only [↓reduceIte, ↓pex_seq, pex_nil, pex_ret, pex_cont, pex_asg, pex_own, pex_pop, pex_cop, pex_app, pex_raise, pex_try, pex_frz, pex_if, pex_while, pex_frn, pex_rng, fq_ok, fq_exc, fk_next, fk_cont, fk_ret, fk_exc, fk_ite, fr_nil, pev_con, pev_var, pev_tab, pev_bin, pev_neg, pev_not, pev_bo, pev_cmp, pev_ty, pev_tup, pev_lst, pev_sub, pev_cut, pev_meth, pev_replC, pev_replV, pev_replD, pev_call, pev_len, pev_lenO, pev_lis, pevs_nil, pevs_cons, peo_no, peo_opt, ptest_eq, pbo_or, pbo_and, pbo_one, piter_l, piter_t, piter_s, prange_i, pvar_dat, ptab_some, plenO_dat, plenO_own, pfn_some, pstrV_str, frz1_own, frz1_dat, papp_own, pcop_list, ptry_ok, ptry_exc, ptry_bad, seqk_next, seqk_brk, seqk_cont, seqk_ret, seqk_exc, seqk_bad, seqk_ite, ifk_true, ifk_false, ifk_dec, ifk_not, ifk_exc, ifk_bad, ifk_ite, fink_ret, fink_next, fink_exc, fink_bad, fink_ite, upd_eq, upd_ne, bindPE_nil, bindPE_cons, none0_app, look_hit, look_ne, ok_bind, exc_bind, bad_bind, ite_bind, pcmp_eq_s, pcmp_ne_s, pcmp_eq_i, pcmp_ne_i, pcmp_lt, pcmp_gt, pcmp_ge, pbin_add_s, pbin_add_i, pbin_add_l, pbin_sub, pbin_mod, pbin_fdiv, pbool_b, pint_i, pstr_s, plen_s, plen_l, plen_t, plist_l, ofS_inj, String.reduceEq, String.reduceNe, List.zip_cons_cons, List.zip_nil_left, List.map_cons, List.map_nil, List.nil_append, List.append_nil, List.cons_append, ite_true, ite_false, decide_false, decide_true, Bool.not_true, Bool.not_false, or_true, true_or, or_false, false_or, or_self, and_self, and_true, true_and, and_false, false_and, not_true_eq_false, not_false_eq_true, reduceCtorEq, Bool.false_eq_true, Bool.true_eq_false, ← decide_not, decide_eq_true_eq, tx_inj, tx_len, ne_eq, Classical.not_not, eq13, eq10, eq1310, eq0, List.cons.injEq, C4_G, C4_F, hc, J.i, J.n, hlt]
    | some y =>
      obtain ⟨h', _⟩ := List.getElem?_eq_some_iff.mp hx
      have hlt : ((k : Int) < (txt.length : Int)) = True := eq_true (by omega)
      have p1 := pitem_str _ _ _ hx (Nat.lt_trans hk (by decide))
      unfold ch at p1
      by_cases hy : y = 10
      · subst hy
        simp -implicitDefEqProofs only [↓reduceIte, ↓pex_seq, pex_nil, pex_ret, pex_cont, pex_asg, pex_own, pex_pop, pex_cop, pex_app, pex_raise, pex_try, pex_frz, pex_if, pex_while, pex_frn, pex_rng, fq_ok, fq_exc, fk_next, fk_cont, fk_ret, fk_exc, fk_ite, fr_nil, pev_con, pev_var, pev_tab, pev_bin, pev_neg, pev_not, pev_bo, pev_cmp, pev_ty, pev_tup, pev_lst, pev_sub, pev_cut, pev_meth, pev_replC, pev_replV, pev_replD, pev_call, pev_len, pev_lenO, pev_lis, pevs_nil, pevs_cons, peo_no, peo_opt, ptest_eq, pbo_or, pbo_and, pbo_one, piter_l, piter_t, piter_s, prange_i, pvar_dat, ptab_some, plenO_dat, plenO_own, pfn_some, pstrV_str, frz1_own, frz1_dat, papp_own, pcop_list, ptry_ok, ptry_exc, ptry_bad, seqk_next, seqk_brk, seqk_cont, seqk_ret, seqk_exc, seqk_bad, seqk_ite, ifk_true, ifk_false, ifk_dec, ifk_not, ifk_exc, ifk_bad, ifk_ite, fink_ret, fink_next, fink_exc, fink_bad, fink_ite, upd_eq, upd_ne, bindPE_nil, bindPE_cons, none0_app, look_hit, look_ne, ok_bind, exc_bind, bad_bind, ite_bind, pcmp_eq_s, pcmp_ne_s, pcmp_eq_i, pcmp_ne_i, pcmp_lt, pcmp_gt, pcmp_ge, pbin_add_s, pbin_add_i, pbin_add_l, pbin_sub, pbin_mod, pbin_fdiv, pbool_b, pint_i, pstr_s, plen_s, plen_l, plen_t, plist_l, ofS_inj, String.reduceEq, String.reduceNe, List.zip_cons_cons, List.zip_nil_left, List.map_cons, List.map_nil, List.nil_append, List.append_nil, List.cons_append, ite_true, ite_false, decide_false, decide_true, Bool.not_true, Bool.not_false, or_true, true_or, or_false, false_or, or_self, and_self, and_true, true_and, and_false, false_and, not_true_eq_false, not_false_eq_true, reduceCtorEq, Bool.false_eq_true, Bool.true_eq_false, ← decide_not, decide_eq_true_eq, tx_inj, tx_len, ne_eq, Classical.not_not, eq13, eq10, eq1310, eq0, List.cons.injEq, C4_G, C4_F, hc, J.i, J.n, J.text, hlt, p1, succ4]
      · simp -implicitDefEqProofs only [↓reduceIte, ↓pex_seq, pex_nil, pex_ret, pex_cont, pex_asg, pex_own, pex_pop, pex_cop, pex_app, pex_raise, pex_try, pex_frz, pex_if, pex_while, pex_frn, pex_rng, fq_ok, fq_exc, fk_next, fk_cont, fk_ret, fk_exc, fk_ite, fr_nil, pev_con, pev_var, pev_tab, pev_bin, pev_neg, pev_not, pev_bo, pev_cmp, pev_ty, pev_tup, pev_lst, pev_sub, pev_cut, pev_meth, pev_replC, pev_replV, pev_replD, pev_call, pev_len, pev_lenO, pev_lis, pevs_nil, pevs_cons, peo_no, peo_opt, ptest_eq, pbo_or, pbo_and, pbo_one, piter_l, piter_t, piter_s, prange_i, pvar_dat, ptab_some, plenO_dat, plenO_own, pfn_some, pstrV_str, frz1_own, frz1_dat, papp_own, pcop_list, ptry_ok, ptry_exc, ptry_bad, seqk_next, seqk_brk, seqk_cont, seqk_ret, seqk_exc, seqk_bad, seqk_ite, ifk_true, ifk_false, ifk_dec, ifk_not, ifk_exc, ifk_bad, ifk_ite, fink_ret, fink_next, fink_exc, fink_bad, fink_ite, upd_eq, upd_ne, bindPE_nil, bindPE_cons, none0_app, look_hit, look_ne, ok_bind, exc_bind, bad_bind, ite_bind, pcmp_eq_s, pcmp_ne_s, pcmp_eq_i, pcmp_ne_i, pcmp_lt, pcmp_gt, pcmp_ge, pbin_add_s, pbin_add_i, pbin_add_l, pbin_sub, pbin_mod, pbin_fdiv, pbool_b, pint_i, pstr_s, plen_s, plen_l, plen_t, plist_l, ofS_inj, String.reduceEq, String.reduceNe, List.zip_cons_cons, List.zip_nil_left, List.map_cons, List.map_nil, List.nil_append, List.append_nil, List.cons_append, ite_true, ite_false, decide_false, decide_true, Bool.not_true, Bool.not_false, or_true, true_or, or_false, false_or, or_self, and_self, and_true, true_and, and_false, false_and, not_true_eq_false, not_false_eq_true, reduceCtorEq, Bool.false_eq_true, Bool.true_eq_false, ← decide_not, decide_eq_true_eq, tx_inj, tx_len, ne_eq, Classical.not_not, eq13, eq10, eq1310, eq0, List.cons.injEq, C4_G, C4_F, hc, J.i, J.n, J.text, hlt, p1, hy, Option.some.injEq]
  · have h4 : c = 10 := h.resolve_left h3
    subst h4
    simp -implicitDefEqProofs only [↓reduceIte, ↓pex_seq, pex_nil, pex_ret, pex_cont, pex_asg, pex_own, pex_pop, pex_cop, pex_app, pex_raise, pex_try, pex_frz, pex_if, pex_while, pex_frn, pex_rng, fq_ok, fq_exc, fk_next, fk_cont, fk_ret, fk_exc, fk_ite, fr_nil, pev_con, pev_var, pev_tab, pev_bin, pev_neg, pev_not, pev_bo, pev_cmp, pev_ty, pev_tup, pev_lst, pev_sub, pev_cut, pev_meth, pev_replC, pev_replV, pev_replD, pev_call, pev_len, pev_lenO, pev_lis, pevs_nil, pevs_cons, peo_no, peo_opt, ptest_eq, pbo_or, pbo_and, pbo_one, piter_l, piter_t, piter_s, prange_i, pvar_dat, ptab_some, plenO_dat, plenO_own, pfn_some, pstrV_str, frz1_own, frz1_dat, papp_own, pcop_list, ptry_ok, ptry_exc, ptry_bad, seqk_next, seqk_brk, seqk_cont, seqk_ret, seqk_exc, seqk_bad, seqk_ite, ifk_true, ifk_false, ifk_dec, ifk_not, ifk_exc, ifk_bad, ifk_ite, fink_ret, fink_next, fink_exc, fink_bad, fink_ite, upd_eq, upd_ne, bindPE_nil, bindPE_cons, none0_app, look_hit, look_ne, ok_bind, exc_bind, bad_bind, ite_bind, pcmp_eq_s, pcmp_ne_s, pcmp_eq_i, pcmp_ne_i, pcmp_lt, pcmp_gt, pcmp_ge, pbin_add_s, pbin_add_i, pbin_add_l, pbin_sub, pbin_mod, pbin_fdiv, pbool_b, pint_i, pstr_s, plen_s, plen_l, plen_t, plist_l, ofS_inj, String.reduceEq, String.reduceNe, List.zip_cons_cons, List.zip_nil_left, List.map_cons, List.map_nil, List.nil_append, List.append_nil, List.cons_append, ite_true, ite_false, decide_false, decide_true, Bool.not_true, Bool.not_false, or_true, true_or, or_false, false_or, or_self, and_self, and_true, true_and, and_false, false_and, not_true_eq_false, not_false_eq_true, reduceCtorEq, Bool.false_eq_true, Bool.true_eq_false, ← decide_not, decide_eq_true_eq, tx_inj, tx_len, ne_eq, Classical.not_not, eq13, eq10, eq1310, eq0, List.cons.injEq, C4_G, C4_F, hc, h3]
theorem w4_b (hc : ρ (Str.ofString "c") = some (.dat (.str (tx [c])))) (h : ¬ (c = 13 ∨ c = 10)) : pex C4 W4b ρ = pex C4 W4c ρ := by
  rw [not_or] at h
  unfold W4b
  simp -implicitDefEqProofs only [↓reduceIte, ↓pex_seq, pex_nil, pex_ret, pex_cont, pex_asg, pex_own, pex_pop, pex_cop, pex_app, pex_raise, pex_try, pex_frz, pex_if, pex_while, pex_frn, pex_rng, fq_ok, fq_exc, fk_next, fk_cont, fk_ret, fk_exc, fk_ite, fr_nil, pev_con, pev_var, pev_tab, pev_bin, pev_neg, pev_not, pev_bo, pev_cmp, pev_ty, pev_tup, pev_lst, pev_sub, pev_cut, pev_meth, pev_replC, pev_replV, pev_replD, pev_call, pev_len, pev_lenO, pev_lis, pevs_nil, pevs_cons, peo_no, peo_opt, ptest_eq, pbo_or, pbo_and, pbo_one, piter_l, piter_t, piter_s, prange_i, pvar_dat, ptab_some, plenO_dat, plenO_own, pfn_some, pstrV_str, frz1_own, frz1_dat, papp_own, pcop_list, ptry_ok, ptry_exc, ptry_bad, seqk_next, seqk_brk, seqk_cont, seqk_ret, seqk_exc, seqk_bad, seqk_ite, ifk_true, ifk_false, ifk_dec, ifk_not, ifk_exc, ifk_bad, ifk_ite, fink_ret, fink_next, fink_exc, fink_bad, fink_ite, upd_eq, upd_ne, bindPE_nil, bindPE_cons, none0_app, look_hit, look_ne, ok_bind, exc_bind, bad_bind, ite_bind, pcmp_eq_s, pcmp_ne_s, pcmp_eq_i, pcmp_ne_i, pcmp_lt, pcmp_gt, pcmp_ge, pbin_add_s, pbin_add_i, pbin_add_l, pbin_sub, pbin_mod, pbin_fdiv, pbool_b, pint_i, pstr_s, plen_s, plen_l, plen_t, plist_l, ofS_inj, String.reduceEq, String.reduceNe, List.zip_cons_cons, List.zip_nil_left, List.map_cons, List.map_nil, List.nil_append, List.append_nil, List.cons_append, ite_true, ite_false, decide_false, decide_true, Bool.not_true, Bool.not_false, or_true, true_or, or_false, false_or, or_self, and_self, and_true, true_and, and_false, false_and, not_true_eq_false, not_false_eq_true, reduceCtorEq, Bool.false_eq_true, Bool.true_eq_false, ← decide_not, decide_eq_true_eq, tx_inj, tx_len, ne_eq, Classical.not_not, eq13, eq10, eq1310, eq0, List.cons.injEq, C4_G, C4_F, hc, h.1, h.2]
theorem w4_aft (J : Iv d q txt ρ .aft f r R k) : pex C4 W4c ρ = .exc := by
  unfold W4c
  simp -implicitDefEqProofs only [↓reduceIte, ↓pex_seq, pex_nil, pex_ret, pex_cont, pex_asg, pex_own, pex_pop, pex_cop, pex_app, pex_raise, pex_try, pex_frz, pex_if, pex_while, pex_frn, pex_rng, fq_ok, fq_exc, fk_next, fk_cont, fk_ret, fk_exc, fk_ite, fr_nil, pev_con, pev_var, pev_tab, pev_bin, pev_neg, pev_not, pev_bo, pev_cmp, pev_ty, pev_tup, pev_lst, pev_sub, pev_cut, pev_meth, pev_replC, pev_replV, pev_replD, pev_call, pev_len, pev_lenO, pev_lis, pevs_nil, pevs_cons, peo_no, peo_opt, ptest_eq, pbo_or, pbo_and, pbo_one, piter_l, piter_t, piter_s, prange_i, pvar_dat, ptab_some, plenO_dat, plenO_own, pfn_some, pstrV_str, frz1_own, frz1_dat, papp_own, pcop_list, ptry_ok, ptry_exc, ptry_bad, seqk_next, seqk_brk, seqk_cont, seqk_ret, seqk_exc, seqk_bad, seqk_ite, ifk_true, ifk_false, ifk_dec, ifk_not, ifk_exc, ifk_bad, ifk_ite, fink_ret, fink_next, fink_exc, fink_bad, fink_ite, upd_eq, upd_ne, bindPE_nil, bindPE_cons, none0_app, look_hit, look_ne, ok_bind, exc_bind, bad_bind, ite_bind, pcmp_eq_s, pcmp_ne_s, pcmp_eq_i, pcmp_ne_i, pcmp_lt, pcmp_gt, pcmp_ge, pbin_add_s, pbin_add_i, pbin_add_l, pbin_sub, pbin_mod, pbin_fdiv, pbool_b, pint_i, pstr_s, plen_s, plen_l, plen_t, plist_l, ofS_inj, String.reduceEq, String.reduceNe, List.zip_cons_cons, List.zip_nil_left, List.map_cons, List.map_nil, List.nil_append, List.append_nil, List.cons_append, ite_true, ite_false, decide_false, decide_true, Bool.not_true, Bool.not_false, or_true, true_or, or_false, false_or, or_self, and_self, and_true, true_and, and_false, false_and, not_true_eq_false, not_false_eq_true, reduceCtorEq, Bool.false_eq_true, Bool.true_eq_false, ← decide_not, decide_eq_true_eq, tx_inj, tx_len, ne_eq, Classical.not_not, eq13, eq10, eq1310, eq0, List.cons.injEq, C4_G, C4_F, J.state, PS.nm]
theorem w4_q (J : Iv d q txt ρ .start f r R k) (hc : ρ (Str.ofString "c") = some (.dat (.str (tx [q])))) : ∃ ρ', pex C4 W4c ρ = .ok (.cont, ρ') ∧ Iv d q txt ρ' .inq f r R k := by
  unfold W4c
  simp -implicitDefEqProofs only [↓reduceIte, ↓pex_seq, pex_nil, pex_ret, pex_cont, pex_asg, pex_own, pex_pop, pex_cop, pex_app, pex_raise, pex_try, pex_frz, pex_if, pex_while, pex_frn, pex_rng, fq_ok, fq_exc, fk_next, fk_cont, fk_ret, fk_exc, fk_ite, fr_nil, pev_con, pev_var, pev_tab, pev_bin, pev_neg, pev_not, pev_bo, pev_cmp, pev_ty, pev_tup, pev_lst, pev_sub, pev_cut, pev_meth, pev_replC, pev_replV, pev_replD, pev_call, pev_len, pev_lenO, pev_lis, pevs_nil, pevs_cons, peo_no, peo_opt, ptest_eq, pbo_or, pbo_and, pbo_one, piter_l, piter_t, piter_s, prange_i, pvar_dat, ptab_some, plenO_dat, plenO_own, pfn_some, pstrV_str, frz1_own, frz1_dat, papp_own, pcop_list, ptry_ok, ptry_exc, ptry_bad, seqk_next, seqk_brk, seqk_cont, seqk_ret, seqk_exc, seqk_bad, seqk_ite, ifk_true, ifk_false, ifk_dec, ifk_not, ifk_exc, ifk_bad, ifk_ite, fink_ret, fink_next, fink_exc, fink_bad, fink_ite, upd_eq, upd_ne, bindPE_nil, bindPE_cons, none0_app, look_hit, look_ne, ok_bind, exc_bind, bad_bind, ite_bind, pcmp_eq_s, pcmp_ne_s, pcmp_eq_i, pcmp_ne_i, pcmp_lt, pcmp_gt, pcmp_ge, pbin_add_s, pbin_add_i, pbin_add_l, pbin_sub, pbin_mod, pbin_fdiv, pbool_b, pint_i, pstr_s, plen_s, plen_l, plen_t, plist_l, ofS_inj, String.reduceEq, String.reduceNe, List.zip_cons_cons, List.zip_nil_left, List.map_cons, List.map_nil, List.nil_append, List.append_nil, List.cons_append, ite_true, ite_false, decide_false, decide_true, Bool.not_true, Bool.not_false, or_true, true_or, or_false, false_or, or_self, and_self, and_true, true_and, and_false, false_and, not_true_eq_false, not_false_eq_true, reduceCtorEq, Bool.false_eq_true, Bool.true_eq_false, ← decide_not, decide_eq_true_eq, tx_inj, tx_len, ne_eq, Classical.not_not, eq13, eq10, eq1310, eq0, List.cons.injEq, C4_G, C4_F, J.state, J.qu, hc, PS.nm]
  refine ⟨_, rfl, ?_⟩
  constructor <;> simp -implicitDefEqProofs only [upd_eq, upd_ne, String.reduceEq, not_false_eq_true, J.text, J.dl, J.qu, J.rows, J.row, J.field, J.state, J.i, J.n, PS.nm]
theorem w4_p (J : Iv d q txt ρ .plain f r R k) (hc : ρ (Str.ofString "c") = some (.dat (.str (tx [q])))) : pex C4 W4c ρ = .exc := by
  unfold W4c
  simp -implicitDefEqProofs only [↓reduceIte, ↓pex_seq, pex_nil, pex_ret, pex_cont, pex_asg, pex_own, pex_pop, pex_cop, pex_app, pex_raise, pex_try, pex_frz, pex_if, pex_while, pex_frn, pex_rng, fq_ok, fq_exc, fk_next, fk_cont, fk_ret, fk_exc, fk_ite, fr_nil, pev_con, pev_var, pev_tab, pev_bin, pev_neg, pev_not, pev_bo, pev_cmp, pev_ty, pev_tup, pev_lst, pev_sub, pev_cut, pev_meth, pev_replC, pev_replV, pev_replD, pev_call, pev_len, pev_lenO, pev_lis, pevs_nil, pevs_cons, peo_no, peo_opt, ptest_eq, pbo_or, pbo_and, pbo_one, piter_l, piter_t, piter_s, prange_i, pvar_dat, ptab_some, plenO_dat, plenO_own, pfn_some, pstrV_str, frz1_own, frz1_dat, papp_own, pcop_list, ptry_ok, ptry_exc, ptry_bad, seqk_next, seqk_brk, seqk_cont, seqk_ret, seqk_exc, seqk_bad, seqk_ite, ifk_true, ifk_false, ifk_dec, ifk_not, ifk_exc, ifk_bad, ifk_ite, fink_ret, fink_next, fink_exc, fink_bad, fink_ite, upd_eq, upd_ne, bindPE_nil, bindPE_cons, none0_app, look_hit, look_ne, ok_bind, exc_bind, bad_bind, ite_bind, pcmp_eq_s, pcmp_ne_s, pcmp_eq_i, pcmp_ne_i, pcmp_lt, pcmp_gt, pcmp_ge, pbin_add_s, pbin_add_i, pbin_add_l, pbin_sub, pbin_mod, pbin_fdiv, pbool_b, pint_i, pstr_s, plen_s, plen_l, plen_t, plist_l, ofS_inj, String.reduceEq, String.reduceNe, List.zip_cons_cons, List.zip_nil_left, List.map_cons, List.map_nil, List.nil_append, List.append_nil, List.cons_append, ite_true, ite_false, decide_false, decide_true, Bool.not_true, Bool.not_false, or_true, true_or, or_false, false_or, or_self, and_self, and_true, true_and, and_false, false_and, not_true_eq_false, not_false_eq_true, reduceCtorEq, Bool.false_eq_true, Bool.true_eq_false, ← decide_not, decide_eq_true_eq, tx_inj, tx_len, ne_eq, Classical.not_not, eq13, eq10, eq1310, eq0, List.cons.injEq, C4_G, C4_F, J.state, J.qu, hc, PS.nm]
theorem w4_o (J : Iv d q txt ρ st f r R k) (hc : ρ (Str.ofString "c") = some (.dat (.str (tx [c])))) (h : ¬ c = q) (hs : ¬ st.nm = Str.ofString "after") (l : Ln4 f r R k) (hk : k < 1000000) : ∃ ρ', pex C4 W4c ρ = .ok (.next, ρ') ∧ Iv d q txt ρ' .plain (f ++ [c]) r R k := by
  have e1 := len4 ch l.lf hk
  unfold W4c
  simp -implicitDefEqProofs only [↓reduceIte, ↓pex_seq, pex_nil, pex_ret, pex_cont, pex_asg, pex_own, pex_pop, pex_cop, pex_app, pex_raise, pex_try, pex_frz, pex_if, pex_while, pex_frn, pex_rng, fq_ok, fq_exc, fk_next, fk_cont, fk_ret, fk_exc, fk_ite, fr_nil, pev_con, pev_var, pev_tab, pev_bin, pev_neg, pev_not, pev_bo, pev_cmp, pev_ty, pev_tup, pev_lst, pev_sub, pev_cut, pev_meth, pev_replC, pev_replV, pev_replD, pev_call, pev_len, pev_lenO, pev_lis, pevs_nil, pevs_cons, peo_no, peo_opt, ptest_eq, pbo_or, pbo_and, pbo_one, piter_l, piter_t, piter_s, prange_i, pvar_dat, ptab_some, plenO_dat, plenO_own, pfn_some, pstrV_str, frz1_own, frz1_dat, papp_own, pcop_list, ptry_ok, ptry_exc, ptry_bad, seqk_next, seqk_brk, seqk_cont, seqk_ret, seqk_exc, seqk_bad, seqk_ite, ifk_true, ifk_false, ifk_dec, ifk_not, ifk_exc, ifk_bad, ifk_ite, fink_ret, fink_next, fink_exc, fink_bad, fink_ite, upd_eq, upd_ne, bindPE_nil, bindPE_cons, none0_app, look_hit, look_ne, ok_bind, exc_bind, bad_bind, ite_bind, pcmp_eq_s, pcmp_ne_s, pcmp_eq_i, pcmp_ne_i, pcmp_lt, pcmp_gt, pcmp_ge, pbin_add_s, pbin_add_i, pbin_add_l, pbin_sub, pbin_mod, pbin_fdiv, pbool_b, pint_i, pstr_s, plen_s, plen_l, plen_t, plist_l, ofS_inj, String.reduceEq, String.reduceNe, List.zip_cons_cons, List.zip_nil_left, List.map_cons, List.map_nil, List.nil_append, List.append_nil, List.cons_append, ite_true, ite_false, decide_false, decide_true, Bool.not_true, Bool.not_false, or_true, true_or, or_false, false_or, or_self, and_self, and_true, true_and, and_false, false_and, not_true_eq_false, not_false_eq_true, reduceCtorEq, Bool.false_eq_true, Bool.true_eq_false, ← decide_not, decide_eq_true_eq, tx_inj, tx_len, ne_eq, Classical.not_not, eq13, eq10, eq1310, eq0, List.cons.injEq, C4_G, C4_F, J.state, J.qu, J.field, hc, hs, h, e1]
  refine ⟨_, rfl, ?_⟩
  constructor <;> simp -implicitDefEqProofs only [upd_eq, upd_ne, String.reduceEq, not_false_eq_true, J.text, J.dl, J.qu, J.rows, J.row, J.field, J.state, J.i, J.n, PS.nm, ch, List.map_append, List.map_cons, List.map_nil]
theorem w4_in (J : Iv d q txt ρ .inq f r R k) (p0 : pitem (.str (tx txt)) (k : Int) = .ok (.str (tx [c]))) (l : Ln4 f r R k) (hk : k + 1 < 1000000) (h : ¬ c = q) : ∃ ρ', pex C4 W4 ρ = .ok (.cont, ρ') ∧ Iv d q txt ρ' .inq (f ++ [c]) r R (k + 1) := by
  have e1 := len4 ch l.lf (Nat.lt_of_succ_lt hk)
  unfold W4
  simp -implicitDefEqProofs only [↓reduceIte, ↓pex_seq, pex_nil, pex_ret, pex_cont, pex_asg, pex_own, pex_pop, pex_cop, pex_app, pex_raise, pex_try, pex_frz, pex_if, pex_while, pex_frn, pex_rng, fq_ok, fq_exc, fk_next, fk_cont, fk_ret, fk_exc, fk_ite, fr_nil, pev_con, pev_var, pev_tab, pev_bin, pev_neg, pev_not, pev_bo, pev_cmp, pev_ty, pev_tup, pev_lst, pev_sub, pev_cut, pev_meth, pev_replC, pev_replV, pev_replD, pev_call, pev_len, pev_lenO, pev_lis, pevs_nil, pevs_cons, peo_no, peo_opt, ptest_eq, pbo_or, pbo_and, pbo_one, piter_l, piter_t, piter_s, prange_i, pvar_dat, ptab_some, plenO_dat, plenO_own, pfn_some, pstrV_str, frz1_own, frz1_dat, papp_own, pcop_list, ptry_ok, ptry_exc, ptry_bad, seqk_next, seqk_brk, seqk_cont, seqk_ret, seqk_exc, seqk_bad, seqk_ite, ifk_true, ifk_false, ifk_dec, ifk_not, ifk_exc, ifk_bad, ifk_ite, fink_ret, fink_next, fink_exc, fink_bad, fink_ite, upd_eq, upd_ne, bindPE_nil, bindPE_cons, none0_app, look_hit, look_ne, ok_bind, exc_bind, bad_bind, ite_bind, pcmp_eq_s, pcmp_ne_s, pcmp_eq_i, pcmp_ne_i, pcmp_lt, pcmp_gt, pcmp_ge, pbin_add_s, pbin_add_i, pbin_add_l, pbin_sub, pbin_mod, pbin_fdiv, pbool_b, pint_i, pstr_s, plen_s, plen_l, plen_t, plist_l, ofS_inj, String.reduceEq, String.reduceNe, List.zip_cons_cons, List.zip_nil_left, List.map_cons, List.map_nil, List.nil_append, List.append_nil, List.cons_append, ite_true, ite_false, decide_false, decide_true, Bool.not_true, Bool.not_false, or_true, true_or, or_false, false_or, or_self, and_self, and_true, true_and, and_false, false_and, not_true_eq_false, not_false_eq_true, reduceCtorEq, Bool.false_eq_true, Bool.true_eq_false, ← decide_not, decide_eq_true_eq, tx_inj, tx_len, ne_eq, Classical.not_not, eq13, eq10, eq1310, eq0, List.cons.injEq, C4_G, C4_F, J.text, J.i, J.state, J.qu, J.field, p0, succ4, h, e1, PS.nm]
  refine ⟨_, rfl, ?_⟩
  constructor <;> simp -implicitDefEqProofs only [upd_eq, upd_ne, String.reduceEq, not_false_eq_true, J.text, J.dl, J.qu, J.rows, J.row, J.field, J.state, J.i, J.n, PS.nm, ch, List.map_append, List.map_cons, List.map_nil]
theorem w4_iq (J : Iv d q txt ρ .inq f r R k) (p0 : pitem (.str (tx txt)) (k : Int) = .ok (.str (tx [q]))) (l : Ln4 f r R k) (hk : k + 1 < 1000000) :
    ∃ ρ', pex C4 W4 ρ = .ok (.cont, ρ') ∧ if txt[k + 1]? = some q then Iv d q txt ρ' .inq (f ++ [q]) r R (k + 2) else Iv d q txt ρ' .aft f r R (k + 1) := by
  have e1 := len4 ch l.lf (Nat.lt_of_succ_lt hk)
  unfold W4
  cases hx : txt[k + 1]? with
  | none =>
    have hlt : ¬ (((k + 1 : Nat) : Int) < (txt.length : Int)) := by rw [List.getElem?_eq_none_iff] at hx; omega
    simp -implicitDefEqProofs only [↓reduceIte, ↓pex_seq, pex_nil, pex_ret, pex_cont, pex_asg, pex_own, pex_pop, pex_cop, pex_app, pex_raise, pex_try, pex_frz, pex_if, pex_while, pex_frn, pex_rng, fq_ok, fq_exc, fk_next, fk_cont, fk_ret, fk_exc, fk_ite, fr_nil, pev_con, pev_var, pev_tab, pev_bin, pev_neg, pev_not, pev_bo, pev_cmp, pev_ty, pev_tup, pev_lst, pev_sub, pev_cut, pev_meth, pev_replC, pev_replV, pev_replD, pev_call, pev_len, pev_lenO, pev_lis, pevs_nil, pevs_cons, peo_no, peo_opt, ptest_eq, pbo_or, pbo_and, pbo_one, piter_l, piter_t, piter_s, prange_i, pvar_dat, ptab_some, plenO_dat, plenO_own, pfn_some, pstrV_str, frz1_own, frz1_dat, papp_own, pcop_list, ptry_ok, ptry_exc, ptry_bad, seqk_next, seqk_brk, seqk_cont, seqk_ret, seqk_exc, seqk_bad, seqk_ite, ifk_true, ifk_false, ifk_dec, ifk_not, ifk_exc, ifk_bad, ifk_ite, fink_ret, fink_next, fink_exc, fink_bad, fink_ite, upd_eq, upd_ne, bindPE_nil, bindPE_cons, none0_app, look_hit, look_ne, ok_bind, exc_bind, bad_bind, ite_bind, pcmp_eq_s, pcmp_ne_s, pcmp_eq_i, pcmp_ne_i, pcmp_lt, pcmp_gt, pcmp_ge, pbin_add_s, pbin_add_i, pbin_add_l, pbin_sub, pbin_mod, pbin_fdiv, pbool_b, pint_i, pstr_s, plen_s, plen_l, plen_t, plist_l, ofS_inj, String.reduceEq, String.reduceNe, List.zip_cons_cons, List.zip_nil_left, List.map_cons, List.map_nil, List.nil_append, List.append_nil, List.cons_append, ite_true, ite_false, decide_false, decide_true, Bool.not_true, Bool.not_false, or_true, true_or, or_false, false_or, or_self, and_self, and_true, true_and, and_false, false_and, not_true_eq_false, not_false_eq_true, reduceCtorEq, Bool.false_eq_true, Bool.true_eq_false, ← decide_not, decide_eq_true_eq, tx_inj, tx_len, ne_eq, Classical.not_not, eq13, eq10, eq1310, eq0, List.cons.injEq, C4_G, C4_F, J.text, J.i, J.state, J.qu, J.n, p0, succ4, hlt, PS.nm]
    refine ⟨_, rfl, ?_⟩
    constructor <;> simp -implicitDefEqProofs only [upd_eq, upd_ne, String.reduceEq, not_false_eq_true, J.text, J.dl, J.qu, J.rows, J.row, J.field, J.state, J.i, J.n, PS.nm]
  | some y =>
    obtain ⟨h', _⟩ := List.getElem?_eq_some_iff.mp hx
    have hlt : (((k + 1 : Nat) : Int) < (txt.length : Int)) = True := eq_true (by omega)
    have p1 := pitem_str _ _ _ hx (Nat.lt_trans hk (by decide))
    unfold ch at p1
    by_cases hy : y = q
    · subst hy
      simp -implicitDefEqProofs only [↓reduceIte, ↓pex_seq, pex_nil, pex_ret, pex_cont, pex_asg, pex_own, pex_pop, pex_cop, pex_app, pex_raise, pex_try, pex_frz, pex_if, pex_while, pex_frn, pex_rng, fq_ok, fq_exc, fk_next, fk_cont, fk_ret, fk_exc, fk_ite, fr_nil, pev_con, pev_var, pev_tab, pev_bin, pev_neg, pev_not, pev_bo, pev_cmp, pev_ty, pev_tup, pev_lst, pev_sub, pev_cut, pev_meth, pev_replC, pev_replV, pev_replD, pev_call, pev_len, pev_lenO, pev_lis, pevs_nil, pevs_cons, peo_no, peo_opt, ptest_eq, pbo_or, pbo_and, pbo_one, piter_l, piter_t, piter_s, prange_i, pvar_dat, ptab_some, plenO_dat, plenO_own, pfn_some, pstrV_str, frz1_own, frz1_dat, papp_own, pcop_list, ptry_ok, ptry_exc, ptry_bad, seqk_next, seqk_brk, seqk_cont, seqk_ret, seqk_exc, seqk_bad, seqk_ite, ifk_true, ifk_false, ifk_dec, ifk_not, ifk_exc, ifk_bad, ifk_ite, fink_ret, fink_next, fink_exc, fink_bad, fink_ite, upd_eq, upd_ne, bindPE_nil, bindPE_cons, none0_app, look_hit, look_ne, ok_bind, exc_bind, bad_bind, ite_bind, pcmp_eq_s, pcmp_ne_s, pcmp_eq_i, pcmp_ne_i, pcmp_lt, pcmp_gt, pcmp_ge, pbin_add_s, pbin_add_i, pbin_add_l, pbin_sub, pbin_mod, pbin_fdiv, pbool_b, pint_i, pstr_s, plen_s, plen_l, plen_t, plist_l, ofS_inj, String.reduceEq, String.reduceNe, List.zip_cons_cons, List.zip_nil_left, List.map_cons, List.map_nil, List.nil_append, List.append_nil, List.cons_append, ite_true, ite_false, decide_false, decide_true, Bool.not_true, Bool.not_false, or_true, true_or, or_false, false_or, or_self, and_self, and_true, true_and, and_false, false_and, not_true_eq_false, not_false_eq_true, reduceCtorEq, Bool.false_eq_true, Bool.true_eq_false, ← decide_not, decide_eq_true_eq, tx_inj, tx_len, ne_eq, Classical.not_not, eq13, eq10, eq1310, eq0, List.cons.injEq, C4_G, C4_F, J.text, J.i, J.state, J.qu, J.n, J.field, p0, p1, e1, succ4, hlt, PS.nm]
      refine ⟨_, rfl, ?_⟩
      constructor <;> simp -implicitDefEqProofs only [upd_eq, upd_ne, String.reduceEq, not_false_eq_true, J.text, J.dl, J.qu, J.rows, J.row, J.field, J.state, J.i, J.n, PS.nm, ch, List.map_append, List.map_cons, List.map_nil]
    · simp -implicitDefEqProofs only [↓reduceIte, ↓pex_seq, pex_nil, pex_ret, pex_cont, pex_asg, pex_own, pex_pop, pex_cop, pex_app, pex_raise, pex_try, pex_frz, pex_if, pex_while, pex_frn, pex_rng, fq_ok, fq_exc, fk_next, fk_cont, fk_ret, fk_exc, fk_ite, fr_nil, pev_con, pev_var, pev_tab, pev_bin, pev_neg, pev_not, pev_bo, pev_cmp, pev_ty, pev_tup, pev_lst, pev_sub, pev_cut, pev_meth, pev_replC, pev_replV, pev_replD, pev_call, pev_len, pev_lenO, pev_lis, pevs_nil, pevs_cons, peo_no, peo_opt, ptest_eq, pbo_or, pbo_and, pbo_one, piter_l, piter_t, piter_s, prange_i, pvar_dat, ptab_some, plenO_dat, plenO_own, pfn_some, pstrV_str, frz1_own, frz1_dat, papp_own, pcop_list, ptry_ok, ptry_exc, ptry_bad, seqk_next, seqk_brk, seqk_cont, seqk_ret, seqk_exc, seqk_bad, seqk_ite, ifk_true, ifk_false, ifk_dec, ifk_not, ifk_exc, ifk_bad, ifk_ite, fink_ret, fink_next, fink_exc, fink_bad, fink_ite, upd_eq, upd_ne, bindPE_nil, bindPE_cons, none0_app, look_hit, look_ne, ok_bind, exc_bind, bad_bind, ite_bind, pcmp_eq_s, pcmp_ne_s, pcmp_eq_i, pcmp_ne_i, pcmp_lt, pcmp_gt, pcmp_ge, pbin_add_s, pbin_add_i, pbin_add_l, pbin_sub, pbin_mod, pbin_fdiv, pbool_b, pint_i, pstr_s, plen_s, plen_l, plen_t, plist_l, ofS_inj, String.reduceEq, String.reduceNe, List.zip_cons_cons, List.zip_nil_left, List.map_cons, List.map_nil, List.nil_append, List.append_nil, List.cons_append, ite_true, ite_false, decide_false, decide_true, Bool.not_true, Bool.not_false, or_true, true_or, or_false, false_or, or_self, and_self, and_true, true_and, and_false, false_and, not_true_eq_false, not_false_eq_true, reduceCtorEq, Bool.false_eq_true, Bool.true_eq_false, ← decide_not, decide_eq_true_eq, tx_inj, tx_len, ne_eq, Classical.not_not, eq13, eq10, eq1310, eq0, List.cons.injEq, C4_G, C4_F, J.text, J.i, J.state, J.qu, J.n, p0, p1, succ4, hlt, hy, Option.some.injEq, PS.nm]
      refine ⟨_, rfl, ?_⟩
      constructor <;> simp -implicitDefEqProofs only [upd_eq, upd_ne, String.reduceEq, not_false_eq_true, J.text, J.dl, J.qu, J.rows, J.row, J.field, J.state, J.i, J.n, PS.nm]
end
theorem test4 {d q txt ρ st f r R k} (I : Inv d q txt ρ st f r R k) : ptest C4 ρ W4t = .ok (decide (k < txt.length)) := by
  have e : ((k : Int) < (txt.length : Int)) = (k < txt.length) := propext (by omega)
  unfold W4t
  simp -implicitDefEqProofs only [↓reduceIte, ↓pex_seq, pex_nil, pex_ret, pex_cont, pex_asg, pex_own, pex_pop, pex_cop, pex_app, pex_raise, pex_try, pex_frz, pex_if, pex_while, pex_frn, pex_rng, fq_ok, fq_exc, fk_next, fk_cont, fk_ret, fk_exc, fk_ite, fr_nil, pev_con, pev_var, pev_tab, pev_bin, pev_neg, pev_not, pev_bo, pev_cmp, pev_ty, pev_tup, pev_lst, pev_sub, pev_cut, pev_meth, pev_replC, pev_replV, pev_replD, pev_call, pev_len, pev_lenO, pev_lis, pevs_nil, pevs_cons, peo_no, peo_opt, ptest_eq, pbo_or, pbo_and, pbo_one, piter_l, piter_t, piter_s, prange_i, pvar_dat, ptab_some, plenO_dat, plenO_own, pfn_some, pstrV_str, frz1_own, frz1_dat, papp_own, pcop_list, ptry_ok, ptry_exc, ptry_bad, seqk_next, seqk_brk, seqk_cont, seqk_ret, seqk_exc, seqk_bad, seqk_ite, ifk_true, ifk_false, ifk_dec, ifk_not, ifk_exc, ifk_bad, ifk_ite, fink_ret, fink_next, fink_exc, fink_bad, fink_ite, upd_eq, upd_ne, bindPE_nil, bindPE_cons, none0_app, look_hit, look_ne, ok_bind, exc_bind, bad_bind, ite_bind, pcmp_eq_s, pcmp_ne_s, pcmp_eq_i, pcmp_ne_i, pcmp_lt, pcmp_gt, pcmp_ge, pbin_add_s, pbin_add_i, pbin_add_l, pbin_sub, pbin_mod, pbin_fdiv, pbool_b, pint_i, pstr_s, plen_s, plen_l, plen_t, plist_l, ofS_inj, String.reduceEq, String.reduceNe, List.zip_cons_cons, List.zip_nil_left, List.map_cons, List.map_nil, List.nil_append, List.append_nil, List.cons_append, ite_true, ite_false, decide_false, decide_true, Bool.not_true, Bool.not_false, or_true, true_or, or_false, false_or, or_self, and_self, and_true, true_and, and_false, false_and, not_true_eq_false, not_false_eq_true, reduceCtorEq, Bool.false_eq_true, Bool.true_eq_false, ← decide_not, decide_eq_true_eq, tx_inj, tx_len, ne_eq, Classical.not_not, eq13, eq10, eq1310, eq0, List.cons.injEq, C4_G, C4_F, I.i, I.n, e]
theorem body4 {d q txt ρ st f r R k c} (I : Inv d q txt ρ st f r R k) (hc : txt[k]? = some c) (hn : txt.length < 1000000) :
    match step d q st f r R c txt[k + 1]? with
    | none => pex C4 W4 ρ = .exc
    | some (st', f', r', R', j) => ∃ fl ρ', (fl = Fl.next ∨ fl = Fl.cont) ∧ pex C4 W4 ρ = .ok (fl, ρ') ∧ Inv d q txt ρ' st' f' r' R' (k + j) := by
  have hk : k < txt.length := (List.getElem?_eq_some_iff.mp hc).1
  have hk1 : k + 1 < 1000000 := Nat.lt_of_le_of_lt hk hn
  have p0 : pitem (.str (tx txt)) (k : Int) = .ok (.str (tx [c])) := pitem_str _ _ _ hc (Nat.lt_trans (Nat.lt_of_succ_lt hk1) (by decide))
  have J := I.toIv
  have l := I.toLn4
  unfold step
  by_cases hs : st = .inq
  · subst hs
    rw [if_pos rfl]
    by_cases h : c = q
    · subst h
      rw [if_pos rfl]
      obtain ⟨ρ', e, J2⟩ := w4_iq J p0 l hk1
      by_cases hx : txt[k + 1]? = some c
      · rw [if_pos hx] at J2 ⊢
        exact ⟨.cont, ρ', .inr rfl, e, ⟨J2, (l.more c).up (Nat.le_succ _)⟩⟩
      · rw [if_neg hx] at J2 ⊢
        exact ⟨.cont, ρ', .inr rfl, e, ⟨J2, l.up (Nat.le_succ _)⟩⟩
    · rw [if_neg h]
      obtain ⟨ρ', e, J2⟩ := w4_in J p0 l hk1 h
      exact ⟨.cont, ρ', .inr rfl, e, ⟨J2, l.more c⟩⟩
  · have hst : ¬ st.nm = Str.ofString "in" := by
      cases st with
      | inq => exact absurd rfl hs
      | _ => show ¬ (Str.ofString _ = Str.ofString _); rw [ofS_inj]; decide
    rw [if_neg hs, w4_pre J p0 hst]
    have J1 := J.pre (.dat (.str (tx [c])))
    have l1 : Ln4 f r R (k + 1) := l.up (Nat.le_succ k)
    have hc1 : upd (upd ρ (Str.ofString "c") (.dat (.str (tx [c])))) (Str.ofString "i") (.dat (.int ((k + 1 : Nat) : Int))) (Str.ofString "c") = some (.dat (.str (tx [c]))) := by
      simp -implicitDefEqProofs only [upd_eq, upd_ne, String.reduceEq, not_false_eq_true]
    generalize upd (upd ρ (Str.ofString "c") (.dat (.str (tx [c])))) (Str.ofString "i") (.dat (.int ((k + 1 : Nat) : Int))) = ρ1 at J1 hc1 ⊢
    by_cases h1 : c = d
    · rw [if_pos h1]
      subst h1
      obtain ⟨ρ', e, J2⟩ := w4_d J1 hc1 l1 hk1
      exact ⟨.cont, ρ', .inr rfl, e, ⟨J2, l.cell⟩⟩
    rw [if_neg h1, w4_a J1 hc1 h1]
    by_cases h2 : c = 13 ∨ c = 10
    · rw [if_pos h2, ← w4_nl J1 hc1 h2 hk1]
      by_cases h3 : c = 13 ∧ txt[k + 1]? = some 10
      · rw [if_pos h3, if_pos h3]
        obtain ⟨h', _⟩ := List.getElem?_eq_some_iff.mp h3.2
        obtain ⟨ρ', e, J2⟩ := w4_n J1.skip (l1.up (Nat.le_succ _)) (Nat.lt_of_le_of_lt h' hn)
        exact ⟨.cont, ρ', .inr rfl, by rw [e]; rfl, ⟨J2, l.line.up (Nat.le_succ _)⟩⟩
      · rw [if_neg h3, if_neg h3]
        obtain ⟨ρ', e, J2⟩ := w4_n J1 l1 hk1
        exact ⟨.cont, ρ', .inr rfl, by rw [e]; rfl, ⟨J2, l.line⟩⟩
    rw [if_neg h2, w4_b hc1 h2]
    by_cases h4 : st = .aft
    · subst h4
      rw [if_pos rfl]
      exact w4_aft J1
    have hst2 : ¬ st.nm = Str.ofString "after" := by
      cases st with
      | aft => exact absurd rfl h4
      | _ => show ¬ (Str.ofString _ = Str.ofString _); rw [ofS_inj]; decide
    rw [if_neg h4]
    by_cases h5 : c = q
    · subst h5
      rw [if_pos rfl]
      cases st with
      | start =>
        rw [if_pos rfl]
        obtain ⟨ρ', e, J2⟩ := w4_q J1 hc1
        exact ⟨.cont, ρ', .inr rfl, e, ⟨J2, l1⟩⟩
      | plain =>
        rw [if_neg (by decide)]
        exact w4_p J1 hc1
      | inq => exact absurd rfl hs
      | aft => exact absurd rfl h4
    · rw [if_neg h5]
      obtain ⟨ρ', e, J2⟩ := w4_o J1 hc1 h5 hst2 l1 hk1
      exact ⟨.next, ρ', .inl rfl, e, ⟨J2, l.more c⟩⟩
theorem loop4 {d q txt} (hn : txt.length < 1000000) : ∀ (n : Nat) {ρ st f r R k}, Inv d q txt ρ st f r R k → k ≤ txt.length → txt.length - k < n →
    match run d q st f r R (txt.drop k) with
    | none => wh C4 W4t W4 n ρ = .exc
    | some (st', f', r', R') => ∃ ρ', wh C4 W4t W4 n ρ = .ok (.next, ρ') ∧ ∃ k', Inv d q txt ρ' st' f' r' R' k' ∧ k' ≤ txt.length
  | 0, _, _, _, _, _, _, _, _, h => absurd h (Nat.not_lt_zero _)
  | n + 1, ρ, st, f, r, R, k, I, hk, h => by
    rcases Nat.lt_or_ge k txt.length with hlt | hge
    · have hc : txt[k]? = some txt[k] := List.getElem?_eq_getElem hlt
      have hd : txt.drop k = txt[k] :: txt.drop (k + 1) := List.drop_eq_getElem_cons hlt
      have hh : (txt.drop (k + 1)).head? = txt[k + 1]? := by rw [List.head?_drop]
      have ht : (txt.drop (k + 1)).tail = txt.drop (k + 2) := by rw [List.tail_drop]
      have T := test4 I
      rw [decide_eq_true hlt] at T
      have b := body4 I hc hn
      rw [hd, run]
      rw [hh]
      cases hs : step d q st f r R txt[k] txt[k + 1]? with
      | none =>
        rw [hs] at b
        dsimp only at b ⊢
        rw [wh_true T, b, wk_exc]
      | some x =>
        obtain ⟨st', f', r', R', j⟩ := x
        rw [hs] at b
        dsimp only at b ⊢
        obtain ⟨fl, ρ', hfl, e, I'⟩ := b
        have hj := step_le hs
        have hw : wh C4 W4t W4 (n + 1) ρ = wh C4 W4t W4 n ρ' := by
          rw [wh_true T, e]
          rcases hfl with rfl | rfl <;> rfl
        rw [hw]
        have hkj : k + j ≤ txt.length := by
          rcases hj.2 with e1 | ⟨e1, e2⟩
          · omega
          · cases hq : txt[k + 1]? with
            | none => rw [hq] at e1; cases e1
            | some y => obtain ⟨h', _⟩ := List.getElem?_eq_some_iff.mp hq; omega
        have ih := loop4 hn n I' hkj (by omega)
        rcases hj.2 with e1 | ⟨_, e2⟩
        · subst e1; exact ih
        · subst e2
          rw [if_pos rfl, ht]; exact ih
    · have hd : txt.drop k = [] := List.drop_eq_nil_of_le hge
      have T := test4 I
      rw [decide_eq_false (Nat.not_lt.mpr hge)] at T
      rw [hd, run]
      exact ⟨ρ, wh_false T, k, I, hk⟩

theorem f4_bad {x D : PyData} (h : f2 [D] = .exc) : f4 [x, D] = .exc := by
  unfold f4 B4
  rw [pcall_fin _ _ _ _ rfl]
  simp -implicitDefEqProofs only [↓reduceIte, ↓pex_seq, pex_nil, pex_ret, pex_cont, pex_asg, pex_own, pex_pop, pex_cop, pex_app, pex_raise, pex_try, pex_frz, pex_if, pex_while, pex_frn, pex_rng, fq_ok, fq_exc, fk_next, fk_cont, fk_ret, fk_exc, fk_ite, fr_nil, pev_con, pev_var, pev_tab, pev_bin, pev_neg, pev_not, pev_bo, pev_cmp, pev_ty, pev_tup, pev_lst, pev_sub, pev_cut, pev_meth, pev_replC, pev_replV, pev_replD, pev_call, pev_len, pev_lenO, pev_lis, pevs_nil, pevs_cons, peo_no, peo_opt, ptest_eq, pbo_or, pbo_and, pbo_one, piter_l, piter_t, piter_s, prange_i, pvar_dat, ptab_some, plenO_dat, plenO_own, pfn_some, pstrV_str, frz1_own, frz1_dat, papp_own, pcop_list, ptry_ok, ptry_exc, ptry_bad, seqk_next, seqk_brk, seqk_cont, seqk_ret, seqk_exc, seqk_bad, seqk_ite, ifk_true, ifk_false, ifk_dec, ifk_not, ifk_exc, ifk_bad, ifk_ite, fink_ret, fink_next, fink_exc, fink_bad, fink_ite, upd_eq, upd_ne, bindPE_nil, bindPE_cons, none0_app, look_hit, look_ne, ok_bind, exc_bind, bad_bind, ite_bind, pcmp_eq_s, pcmp_ne_s, pcmp_eq_i, pcmp_ne_i, pcmp_lt, pcmp_gt, pcmp_ge, pbin_add_s, pbin_add_i, pbin_add_l, pbin_sub, pbin_mod, pbin_fdiv, pbool_b, pint_i, pstr_s, plen_s, plen_l, plen_t, plist_l, ofS_inj, String.reduceEq, String.reduceNe, List.zip_cons_cons, List.zip_nil_left, List.map_cons, List.map_nil, List.nil_append, List.append_nil, List.cons_append, ite_true, ite_false, decide_false, decide_true, Bool.not_true, Bool.not_false, or_true, true_or, or_false, false_or, or_self, and_self, and_true, true_and, and_false, false_and, not_true_eq_false, not_false_eq_true, reduceCtorEq, Bool.false_eq_true, Bool.true_eq_false, ← decide_not, decide_eq_true_eq, tx_inj, tx_len, ne_eq, Classical.not_not, eq13, eq10, eq1310, eq0, List.cons.injEq, C4_G, C4_F, h]
theorem end4 {d q txt ρ st f r R k} (I : Inv d q txt ρ st f r R k) (hk : k < 1000000) : fink (pex C4 R4 ρ) = match fin (some (st, f, r, R)) with | none => .exc | some T => .ok (tabd T) := by
  have hL : LIM = 16777216 := rfl
  have e1 : ((f.map ch).length ≤ LIM) = True := by rw [List.length_map]; exact eq_true (by have := I.lf; omega)
  have e2 : ((r.map txd).length ≤ LIM) = True := by rw [List.length_map]; exact eq_true (by have := I.lr; omega)
  have e2' : ((r.map txd).length < LIM) = True := by rw [List.length_map]; exact eq_true (by have := I.lr; omega)
  have e3 : ((R.map rowd).length < LIM) = True := by rw [List.length_map]; exact eq_true (by have := I.lR; omega)
  have j1 : pmeth .join (Str.ofString "") (.list (f.map ch)) = .ok (txd f) := by rw [s0]; exact pmeth_join_ch f (by have := I.lf; omega)
  have hr : ((0 : Int) < ((r.map txd).length : Int)) = (r ≠ []) := by
    rw [List.length_map]
    apply propext
    cases r with
    | nil => simp
    | cons a r => simp
  have n1 : (([] : List PyData).length ≤ LIM) = True := eq_true (Nat.zero_le _)
  have n2 : (([] : List PyData).length < LIM) = True := eq_true (by rw [hL]; decide)
  have n3 : ((0 : Int) < (([] : List PyData).length : Int)) = False := by simp
  unfold R4 fin
  cases st with
  | inq => simp -implicitDefEqProofs only [↓reduceIte, ↓pex_seq, pex_nil, pex_ret, pex_cont, pex_asg, pex_own, pex_pop, pex_cop, pex_app, pex_raise, pex_try, pex_frz, pex_if, pex_while, pex_frn, pex_rng, fq_ok, fq_exc, fk_next, fk_cont, fk_ret, fk_exc, fk_ite, fr_nil, pev_con, pev_var, pev_tab, pev_bin, pev_neg, pev_not, pev_bo, pev_cmp, pev_ty, pev_tup, pev_lst, pev_sub, pev_cut, pev_meth, pev_replC, pev_replV, pev_replD, pev_call, pev_len, pev_lenO, pev_lis, pevs_nil, pevs_cons, peo_no, peo_opt, ptest_eq, pbo_or, pbo_and, pbo_one, piter_l, piter_t, piter_s, prange_i, pvar_dat, ptab_some, plenO_dat, plenO_own, pfn_some, pstrV_str, frz1_own, frz1_dat, papp_own, pcop_list, ptry_ok, ptry_exc, ptry_bad, seqk_next, seqk_brk, seqk_cont, seqk_ret, seqk_exc, seqk_bad, seqk_ite, ifk_true, ifk_false, ifk_dec, ifk_not, ifk_exc, ifk_bad, ifk_ite, fink_ret, fink_next, fink_exc, fink_bad, fink_ite, upd_eq, upd_ne, bindPE_nil, bindPE_cons, none0_app, look_hit, look_ne, ok_bind, exc_bind, bad_bind, ite_bind, pcmp_eq_s, pcmp_ne_s, pcmp_eq_i, pcmp_ne_i, pcmp_lt, pcmp_gt, pcmp_ge, pbin_add_s, pbin_add_i, pbin_add_l, pbin_sub, pbin_mod, pbin_fdiv, pbool_b, pint_i, pstr_s, plen_s, plen_l, plen_t, plist_l, ofS_inj, String.reduceEq, String.reduceNe, List.zip_cons_cons, List.zip_nil_left, List.map_cons, List.map_nil, List.nil_append, List.append_nil, List.cons_append, ite_true, ite_false, decide_false, decide_true, Bool.not_true, Bool.not_false, or_true, true_or, or_false, false_or, or_self, and_self, and_true, true_and, and_false, false_and, not_true_eq_false, not_false_eq_true, reduceCtorEq, Bool.false_eq_true, Bool.true_eq_false, ← decide_not, decide_eq_true_eq, tx_inj, tx_len, ne_eq, Classical.not_not, eq13, eq10, eq1310, eq0, List.cons.injEq, C4_G, C4_F, I.text, I.dl, I.qu, I.rows, I.row, I.field, I.state, I.i, I.n, PS.nm, e1, e2, e2', e3, j1, hr]
  | start =>
    by_cases h : r = []
    · simp -implicitDefEqProofs only [↓reduceIte, ↓pex_seq, pex_nil, pex_ret, pex_cont, pex_asg, pex_own, pex_pop, pex_cop, pex_app, pex_raise, pex_try, pex_frz, pex_if, pex_while, pex_frn, pex_rng, fq_ok, fq_exc, fk_next, fk_cont, fk_ret, fk_exc, fk_ite, fr_nil, pev_con, pev_var, pev_tab, pev_bin, pev_neg, pev_not, pev_bo, pev_cmp, pev_ty, pev_tup, pev_lst, pev_sub, pev_cut, pev_meth, pev_replC, pev_replV, pev_replD, pev_call, pev_len, pev_lenO, pev_lis, pevs_nil, pevs_cons, peo_no, peo_opt, ptest_eq, pbo_or, pbo_and, pbo_one, piter_l, piter_t, piter_s, prange_i, pvar_dat, ptab_some, plenO_dat, plenO_own, pfn_some, pstrV_str, frz1_own, frz1_dat, papp_own, pcop_list, ptry_ok, ptry_exc, ptry_bad, seqk_next, seqk_brk, seqk_cont, seqk_ret, seqk_exc, seqk_bad, seqk_ite, ifk_true, ifk_false, ifk_dec, ifk_not, ifk_exc, ifk_bad, ifk_ite, fink_ret, fink_next, fink_exc, fink_bad, fink_ite, upd_eq, upd_ne, bindPE_nil, bindPE_cons, none0_app, look_hit, look_ne, ok_bind, exc_bind, bad_bind, ite_bind, pcmp_eq_s, pcmp_ne_s, pcmp_eq_i, pcmp_ne_i, pcmp_lt, pcmp_gt, pcmp_ge, pbin_add_s, pbin_add_i, pbin_add_l, pbin_sub, pbin_mod, pbin_fdiv, pbool_b, pint_i, pstr_s, plen_s, plen_l, plen_t, plist_l, ofS_inj, String.reduceEq, String.reduceNe, List.zip_cons_cons, List.zip_nil_left, List.map_cons, List.map_nil, List.nil_append, List.append_nil, List.cons_append, ite_true, ite_false, decide_false, decide_true, Bool.not_true, Bool.not_false, or_true, true_or, or_false, false_or, or_self, and_self, and_true, true_and, and_false, false_and, not_true_eq_false, not_false_eq_true, reduceCtorEq, Bool.false_eq_true, Bool.true_eq_false, ← decide_not, decide_eq_true_eq, tx_inj, tx_len, ne_eq, Classical.not_not, eq13, eq10, eq1310, eq0, List.cons.injEq, C4_G, C4_F, I.text, I.dl, I.qu, I.rows, I.row, I.field, I.state, I.i, I.n, PS.nm, e1, e2, e2', e3, j1, hr, h, n1, n2, n3, tabd]
    · simp -implicitDefEqProofs only [↓reduceIte, ↓pex_seq, pex_nil, pex_ret, pex_cont, pex_asg, pex_own, pex_pop, pex_cop, pex_app, pex_raise, pex_try, pex_frz, pex_if, pex_while, pex_frn, pex_rng, fq_ok, fq_exc, fk_next, fk_cont, fk_ret, fk_exc, fk_ite, fr_nil, pev_con, pev_var, pev_tab, pev_bin, pev_neg, pev_not, pev_bo, pev_cmp, pev_ty, pev_tup, pev_lst, pev_sub, pev_cut, pev_meth, pev_replC, pev_replV, pev_replD, pev_call, pev_len, pev_lenO, pev_lis, pevs_nil, pevs_cons, peo_no, peo_opt, ptest_eq, pbo_or, pbo_and, pbo_one, piter_l, piter_t, piter_s, prange_i, pvar_dat, ptab_some, plenO_dat, plenO_own, pfn_some, pstrV_str, frz1_own, frz1_dat, papp_own, pcop_list, ptry_ok, ptry_exc, ptry_bad, seqk_next, seqk_brk, seqk_cont, seqk_ret, seqk_exc, seqk_bad, seqk_ite, ifk_true, ifk_false, ifk_dec, ifk_not, ifk_exc, ifk_bad, ifk_ite, fink_ret, fink_next, fink_exc, fink_bad, fink_ite, upd_eq, upd_ne, bindPE_nil, bindPE_cons, none0_app, look_hit, look_ne, ok_bind, exc_bind, bad_bind, ite_bind, pcmp_eq_s, pcmp_ne_s, pcmp_eq_i, pcmp_ne_i, pcmp_lt, pcmp_gt, pcmp_ge, pbin_add_s, pbin_add_i, pbin_add_l, pbin_sub, pbin_mod, pbin_fdiv, pbool_b, pint_i, pstr_s, plen_s, plen_l, plen_t, plist_l, ofS_inj, String.reduceEq, String.reduceNe, List.zip_cons_cons, List.zip_nil_left, List.map_cons, List.map_nil, List.nil_append, List.append_nil, List.cons_append, ite_true, ite_false, decide_false, decide_true, Bool.not_true, Bool.not_false, or_true, true_or, or_false, false_or, or_self, and_self, and_true, true_and, and_false, false_and, not_true_eq_false, not_false_eq_true, reduceCtorEq, Bool.false_eq_true, Bool.true_eq_false, ← decide_not, decide_eq_true_eq, tx_inj, tx_len, ne_eq, Classical.not_not, eq13, eq10, eq1310, eq0, List.cons.injEq, C4_G, C4_F, I.text, I.dl, I.qu, I.rows, I.row, I.field, I.state, I.i, I.n, PS.nm, e1, e2, e2', e3, j1, hr, h, n1, n2, n3, tabd, rowd, List.map_append]
  | plain =>
    by_cases h : r = []
    · simp -implicitDefEqProofs only [↓reduceIte, ↓pex_seq, pex_nil, pex_ret, pex_cont, pex_asg, pex_own, pex_pop, pex_cop, pex_app, pex_raise, pex_try, pex_frz, pex_if, pex_while, pex_frn, pex_rng, fq_ok, fq_exc, fk_next, fk_cont, fk_ret, fk_exc, fk_ite, fr_nil, pev_con, pev_var, pev_tab, pev_bin, pev_neg, pev_not, pev_bo, pev_cmp, pev_ty, pev_tup, pev_lst, pev_sub, pev_cut, pev_meth, pev_replC, pev_replV, pev_replD, pev_call, pev_len, pev_lenO, pev_lis, pevs_nil, pevs_cons, peo_no, peo_opt, ptest_eq, pbo_or, pbo_and, pbo_one, piter_l, piter_t, piter_s, prange_i, pvar_dat, ptab_some, plenO_dat, plenO_own, pfn_some, pstrV_str, frz1_own, frz1_dat, papp_own, pcop_list, ptry_ok, ptry_exc, ptry_bad, seqk_next, seqk_brk, seqk_cont, seqk_ret, seqk_exc, seqk_bad, seqk_ite, ifk_true, ifk_false, ifk_dec, ifk_not, ifk_exc, ifk_bad, ifk_ite, fink_ret, fink_next, fink_exc, fink_bad, fink_ite, upd_eq, upd_ne, bindPE_nil, bindPE_cons, none0_app, look_hit, look_ne, ok_bind, exc_bind, bad_bind, ite_bind, pcmp_eq_s, pcmp_ne_s, pcmp_eq_i, pcmp_ne_i, pcmp_lt, pcmp_gt, pcmp_ge, pbin_add_s, pbin_add_i, pbin_add_l, pbin_sub, pbin_mod, pbin_fdiv, pbool_b, pint_i, pstr_s, plen_s, plen_l, plen_t, plist_l, ofS_inj, String.reduceEq, String.reduceNe, List.zip_cons_cons, List.zip_nil_left, List.map_cons, List.map_nil, List.nil_append, List.append_nil, List.cons_append, ite_true, ite_false, decide_false, decide_true, Bool.not_true, Bool.not_false, or_true, true_or, or_false, false_or, or_self, and_self, and_true, true_and, and_false, false_and, not_true_eq_false, not_false_eq_true, reduceCtorEq, Bool.false_eq_true, Bool.true_eq_false, ← decide_not, decide_eq_true_eq, tx_inj, tx_len, ne_eq, Classical.not_not, eq13, eq10, eq1310, eq0, List.cons.injEq, C4_G, C4_F, I.text, I.dl, I.qu, I.rows, I.row, I.field, I.state, I.i, I.n, PS.nm, e1, e2, e2', e3, j1, hr, h, n1, n2, n3, tabd, rowd, List.map_append]
    · simp -implicitDefEqProofs only [↓reduceIte, ↓pex_seq, pex_nil, pex_ret, pex_cont, pex_asg, pex_own, pex_pop, pex_cop, pex_app, pex_raise, pex_try, pex_frz, pex_if, pex_while, pex_frn, pex_rng, fq_ok, fq_exc, fk_next, fk_cont, fk_ret, fk_exc, fk_ite, fr_nil, pev_con, pev_var, pev_tab, pev_bin, pev_neg, pev_not, pev_bo, pev_cmp, pev_ty, pev_tup, pev_lst, pev_sub, pev_cut, pev_meth, pev_replC, pev_replV, pev_replD, pev_call, pev_len, pev_lenO, pev_lis, pevs_nil, pevs_cons, peo_no, peo_opt, ptest_eq, pbo_or, pbo_and, pbo_one, piter_l, piter_t, piter_s, prange_i, pvar_dat, ptab_some, plenO_dat, plenO_own, pfn_some, pstrV_str, frz1_own, frz1_dat, papp_own, pcop_list, ptry_ok, ptry_exc, ptry_bad, seqk_next, seqk_brk, seqk_cont, seqk_ret, seqk_exc, seqk_bad, seqk_ite, ifk_true, ifk_false, ifk_dec, ifk_not, ifk_exc, ifk_bad, ifk_ite, fink_ret, fink_next, fink_exc, fink_bad, fink_ite, upd_eq, upd_ne, bindPE_nil, bindPE_cons, none0_app, look_hit, look_ne, ok_bind, exc_bind, bad_bind, ite_bind, pcmp_eq_s, pcmp_ne_s, pcmp_eq_i, pcmp_ne_i, pcmp_lt, pcmp_gt, pcmp_ge, pbin_add_s, pbin_add_i, pbin_add_l, pbin_sub, pbin_mod, pbin_fdiv, pbool_b, pint_i, pstr_s, plen_s, plen_l, plen_t, plist_l, ofS_inj, String.reduceEq, String.reduceNe, List.zip_cons_cons, List.zip_nil_left, List.map_cons, List.map_nil, List.nil_append, List.append_nil, List.cons_append, ite_true, ite_false, decide_false, decide_true, Bool.not_true, Bool.not_false, or_true, true_or, or_false, false_or, or_self, and_self, and_true, true_and, and_false, false_and, not_true_eq_false, not_false_eq_true, reduceCtorEq, Bool.false_eq_true, Bool.true_eq_false, ← decide_not, decide_eq_true_eq, tx_inj, tx_len, ne_eq, Classical.not_not, eq13, eq10, eq1310, eq0, List.cons.injEq, C4_G, C4_F, I.text, I.dl, I.qu, I.rows, I.row, I.field, I.state, I.i, I.n, PS.nm, e1, e2, e2', e3, j1, hr, h, n1, n2, n3, tabd, rowd, List.map_append]
  | aft =>
    by_cases h : r = []
    · simp -implicitDefEqProofs only [↓reduceIte, ↓pex_seq, pex_nil, pex_ret, pex_cont, pex_asg, pex_own, pex_pop, pex_cop, pex_app, pex_raise, pex_try, pex_frz, pex_if, pex_while, pex_frn, pex_rng, fq_ok, fq_exc, fk_next, fk_cont, fk_ret, fk_exc, fk_ite, fr_nil, pev_con, pev_var, pev_tab, pev_bin, pev_neg, pev_not, pev_bo, pev_cmp, pev_ty, pev_tup, pev_lst, pev_sub, pev_cut, pev_meth, pev_replC, pev_replV, pev_replD, pev_call, pev_len, pev_lenO, pev_lis, pevs_nil, pevs_cons, peo_no, peo_opt, ptest_eq, pbo_or, pbo_and, pbo_one, piter_l, piter_t, piter_s, prange_i, pvar_dat, ptab_some, plenO_dat, plenO_own, pfn_some, pstrV_str, frz1_own, frz1_dat, papp_own, pcop_list, ptry_ok, ptry_exc, ptry_bad, seqk_next, seqk_brk, seqk_cont, seqk_ret, seqk_exc, seqk_bad, seqk_ite, ifk_true, ifk_false, ifk_dec, ifk_not, ifk_exc, ifk_bad, ifk_ite, fink_ret, fink_next, fink_exc, fink_bad, fink_ite, upd_eq, upd_ne, bindPE_nil, bindPE_cons, none0_app, look_hit, look_ne, ok_bind, exc_bind, bad_bind, ite_bind, pcmp_eq_s, pcmp_ne_s, pcmp_eq_i, pcmp_ne_i, pcmp_lt, pcmp_gt, pcmp_ge, pbin_add_s, pbin_add_i, pbin_add_l, pbin_sub, pbin_mod, pbin_fdiv, pbool_b, pint_i, pstr_s, plen_s, plen_l, plen_t, plist_l, ofS_inj, String.reduceEq, String.reduceNe, List.zip_cons_cons, List.zip_nil_left, List.map_cons, List.map_nil, List.nil_append, List.append_nil, List.cons_append, ite_true, ite_false, decide_false, decide_true, Bool.not_true, Bool.not_false, or_true, true_or, or_false, false_or, or_self, and_self, and_true, true_and, and_false, false_and, not_true_eq_false, not_false_eq_true, reduceCtorEq, Bool.false_eq_true, Bool.true_eq_false, ← decide_not, decide_eq_true_eq, tx_inj, tx_len, ne_eq, Classical.not_not, eq13, eq10, eq1310, eq0, List.cons.injEq, C4_G, C4_F, I.text, I.dl, I.qu, I.rows, I.row, I.field, I.state, I.i, I.n, PS.nm, e1, e2, e2', e3, j1, hr, h, n1, n2, n3, tabd, rowd, List.map_append]
    · simp -implicitDefEqProofs only [↓reduceIte, ↓pex_seq, pex_nil, pex_ret, pex_cont, pex_asg, pex_own, pex_pop, pex_cop, pex_app, pex_raise, pex_try, pex_frz, pex_if, pex_while, pex_frn, pex_rng, fq_ok, fq_exc, fk_next, fk_cont, fk_ret, fk_exc, fk_ite, fr_nil, pev_con, pev_var, pev_tab, pev_bin, pev_neg, pev_not, pev_bo, pev_cmp, pev_ty, pev_tup, pev_lst, pev_sub, pev_cut, pev_meth, pev_replC, pev_replV, pev_replD, pev_call, pev_len, pev_lenO, pev_lis, pevs_nil, pevs_cons, peo_no, peo_opt, ptest_eq, pbo_or, pbo_and, pbo_one, piter_l, piter_t, piter_s, prange_i, pvar_dat, ptab_some, plenO_dat, plenO_own, pfn_some, pstrV_str, frz1_own, frz1_dat, papp_own, pcop_list, ptry_ok, ptry_exc, ptry_bad, seqk_next, seqk_brk, seqk_cont, seqk_ret, seqk_exc, seqk_bad, seqk_ite, ifk_true, ifk_false, ifk_dec, ifk_not, ifk_exc, ifk_bad, ifk_ite, fink_ret, fink_next, fink_exc, fink_bad, fink_ite, upd_eq, upd_ne, bindPE_nil, bindPE_cons, none0_app, look_hit, look_ne, ok_bind, exc_bind, bad_bind, ite_bind, pcmp_eq_s, pcmp_ne_s, pcmp_eq_i, pcmp_ne_i, pcmp_lt, pcmp_gt, pcmp_ge, pbin_add_s, pbin_add_i, pbin_add_l, pbin_sub, pbin_mod, pbin_fdiv, pbool_b, pint_i, pstr_s, plen_s, plen_l, plen_t, plist_l, ofS_inj, String.reduceEq, String.reduceNe, List.zip_cons_cons, List.zip_nil_left, List.map_cons, List.map_nil, List.nil_append, List.append_nil, List.cons_append, ite_true, ite_false, decide_false, decide_true, Bool.not_true, Bool.not_false, or_true, true_or, or_false, false_or, or_self, and_self, and_true, true_and, and_false, false_and, not_true_eq_false, not_false_eq_true, reduceCtorEq, Bool.false_eq_true, Bool.true_eq_false, ← decide_not, decide_eq_true_eq, tx_inj, tx_len, ne_eq, Classical.not_not, eq13, eq10, eq1310, eq0, List.cons.injEq, C4_G, C4_F, I.text, I.dl, I.qu, I.rows, I.row, I.field, I.state, I.i, I.n, PS.nm, e1, e2, e2', e3, j1, hr, h, n1, n2, n3, tabd, rowd, List.map_append]
theorem f4_eq (txt : List Nat) (d q : Nat) (nl : List Nat) (hn : txt.length < 1000000) (ok : okDia [[d], [q], nl] = true) :
    f4 [.str (tx txt), .tuple [.str (tx [d]), .str (tx [q]), .str (tx nl)]] = match parse d q txt with | none => .exc | some T => .ok (tabd T) := by
  have hL : LIM = 16777216 := rfl
  have c2 : f2 [.tuple [.str (tx [d]), .str (tx [q]), .str (tx nl)]] = .ok (.tuple [.str (tx [d]), .str (tx [q]), .str (tx nl)]) := by
    rw [f2_eq _ _ _ (by simp [LIM]) (by simp [LIM]), if_pos ok]
  have K : ∀ ρ, Inv d q txt ρ .start [] [] [] 0 → fink (seqk C4 R4 (wh C4 W4t W4 LIM ρ)) = match parse d q txt with | none => .exc | some T => .ok (tabd T) := by
    intro ρ I
    have L := loop4 hn LIM I (Nat.zero_le _) (by omega)
    unfold parse
    rw [List.drop_zero] at L
    cases hr : run d q .start [] [] [] txt with
    | none => rw [hr] at L; dsimp only at L; rw [L]; rfl
    | some x =>
      obtain ⟨st, f, r, R⟩ := x
      rw [hr] at L
      dsimp only at L
      obtain ⟨ρ', e, k, I', hk⟩ := L
      rw [e, seqk_next]
      exact end4 I' (by omega)
  have i0 : pitem (.tuple [.str (tx [d]), .str (tx [q]), .str (tx nl)]) 0 = .ok (.str (tx [d])) := pitem_tuple _ 0 _ rfl (by decide)
  have i1 : pitem (.tuple [.str (tx [d]), .str (tx [q]), .str (tx nl)]) 1 = .ok (.str (tx [q])) := pitem_tuple _ 1 _ rfl (by decide)
  have l1 : (txt.length ≤ LIM) = True := eq_true (by omega)
  have e4 : (([] : List PyData).length ≤ LIM) = True := eq_true (Nat.zero_le _)
  unfold f4 B4
  rw [pcall_fin _ _ _ _ rfl]
  simp -implicitDefEqProofs only [↓reduceIte, ↓pex_seq, pex_nil, pex_ret, pex_cont, pex_asg, pex_own, pex_pop, pex_cop, pex_app, pex_raise, pex_try, pex_frz, pex_if, pex_while, pex_frn, pex_rng, fq_ok, fq_exc, fk_next, fk_cont, fk_ret, fk_exc, fk_ite, fr_nil, pev_con, pev_var, pev_tab, pev_bin, pev_neg, pev_not, pev_bo, pev_cmp, pev_ty, pev_tup, pev_lst, pev_sub, pev_cut, pev_meth, pev_replC, pev_replV, pev_replD, pev_call, pev_len, pev_lenO, pev_lis, pevs_nil, pevs_cons, peo_no, peo_opt, ptest_eq, pbo_or, pbo_and, pbo_one, piter_l, piter_t, piter_s, prange_i, pvar_dat, ptab_some, plenO_dat, plenO_own, pfn_some, pstrV_str, frz1_own, frz1_dat, papp_own, pcop_list, ptry_ok, ptry_exc, ptry_bad, seqk_next, seqk_brk, seqk_cont, seqk_ret, seqk_exc, seqk_bad, seqk_ite, ifk_true, ifk_false, ifk_dec, ifk_not, ifk_exc, ifk_bad, ifk_ite, fink_ret, fink_next, fink_exc, fink_bad, fink_ite, upd_eq, upd_ne, bindPE_nil, bindPE_cons, none0_app, look_hit, look_ne, ok_bind, exc_bind, bad_bind, ite_bind, pcmp_eq_s, pcmp_ne_s, pcmp_eq_i, pcmp_ne_i, pcmp_lt, pcmp_gt, pcmp_ge, pbin_add_s, pbin_add_i, pbin_add_l, pbin_sub, pbin_mod, pbin_fdiv, pbool_b, pint_i, pstr_s, plen_s, plen_l, plen_t, plist_l, ofS_inj, String.reduceEq, String.reduceNe, List.zip_cons_cons, List.zip_nil_left, List.map_cons, List.map_nil, List.nil_append, List.append_nil, List.cons_append, ite_true, ite_false, decide_false, decide_true, Bool.not_true, Bool.not_false, or_true, true_or, or_false, false_or, or_self, and_self, and_true, true_and, and_false, false_and, not_true_eq_false, not_false_eq_true, reduceCtorEq, Bool.false_eq_true, Bool.true_eq_false, ← decide_not, decide_eq_true_eq, tx_inj, tx_len, ne_eq, Classical.not_not, eq13, eq10, eq1310, eq0, List.cons.injEq, C4_G, C4_F, c2, i0, i1, l1, e4]
  refine K _ ⟨⟨?_, ?_, ?_, ?_, ?_, ?_, ?_, ?_, ?_⟩, .nil⟩ <;>
    simp -implicitDefEqProofs only [upd_eq, upd_ne, String.reduceEq, not_false_eq_true, none0_app, PS.nm, List.map_nil] <;> rfl
end Mine

open PySem
set_option maxRecDepth 100000
set_option maxHeartbeats 4000000
set_option linter.unusedSimpArgs false
namespace Mine
noncomputable def R6 : QS := (.seq (.ret (.con (.bool false))) .nil)
noncomputable def F6 : QS := (.seq (.ite (.bo .Or (.cons (.cmp .Eq (.var "c") (.var "delimiter")) (.cons (.cmp .Eq (.var "c") (.var "quote")) (.cons (.cmp .Eq (.var "c") (.con (.str (Str.ofString "\r")))) (.cons (.cmp .Eq (.var "c") (.con (.str (Str.ofString "\n")))) .nil))))) (.seq (.ret (.con (.bool true))) .nil) .nil) .nil)
noncomputable def B6 : QS := (.seq (.frn "c" (.var "field") F6) R6)
noncomputable def C6 : PC := mkC [] []
theorem C6_G : C6.G = look [] := rfl
theorem C6_F : C6.F = look [] := rfl
theorem C6_fuel : C6.fuel = LIM := rfl
noncomputable def f6 : List PyData → Out PyData := pcall C6 [Str.ofString "field", Str.ofString "delimiter", Str.ofString "quote"] B6
theorem loop6 {d q : Nat} : ∀ (f : List Nat) (ρ : PE), ρ (Str.ofString "delimiter") = some (.dat (.str (tx [d]))) → ρ (Str.ofString "quote") = some (.dat (.str (tx [q]))) →
    ∃ ρ', fr C6 ["c"] F6 (f.map ch) ρ = if needs d q f = true then .ok (.ret (.bool true), ρ') else .ok (.next, ρ')
  | [], ρ, _, _ => ⟨ρ, by simp [fr_nil, needs]⟩
  | c :: f, ρ, h1, h2 => by
    obtain ⟨ρ', ih⟩ := loop6 (d := d) (q := q) f (upd ρ (Str.ofString "c") (.dat (ch c))) (by simp -implicitDefEqProofs only [upd_eq, upd_ne, String.reduceEq, not_false_eq_true, h1]) (by simp -implicitDefEqProofs only [upd_eq, upd_ne, String.reduceEq, not_false_eq_true, h2])
    have hne : needs d q (c :: f) = (special d q c || needs d q f) := by simp [needs]
    have hsp : special d q c = true ↔ (c = d ∨ c = q ∨ c = 13 ∨ c = 10) := by simp [special]
    rw [hne]
    rw [List.map_cons]
    unfold F6 at ih ⊢
    rw [fr_name]
    by_cases k1 : c = d ∨ c = q ∨ c = 13 ∨ c = 10
    · refine ⟨upd ρ (Str.ofString "c") (.dat (ch c)), ?_⟩
      rw [hsp.mpr k1, Bool.true_or, if_pos rfl]
      by_cases g1 : c = d
      · simp -implicitDefEqProofs only [↓reduceIte, ↓pex_seq, pex_nil, pex_ret, pex_cont, pex_asg, pex_own, pex_pop, pex_cop, pex_app, pex_raise, pex_try, pex_frz, pex_if, pex_while, pex_frn, pex_rng, fq_ok, fq_exc, fk_next, fk_cont, fk_ret, fk_exc, fk_ite, fr_nil, pev_con, pev_var, pev_tab, pev_bin, pev_neg, pev_not, pev_bo, pev_cmp, pev_ty, pev_tup, pev_lst, pev_sub, pev_cut, pev_meth, pev_replC, pev_replV, pev_replD, pev_call, pev_len, pev_lenO, pev_lis, pevs_nil, pevs_cons, peo_no, peo_opt, ptest_eq, pbo_or, pbo_and, pbo_one, piter_l, piter_t, piter_s, prange_i, pvar_dat, ptab_some, plenO_dat, plenO_own, pfn_some, pstrV_str, frz1_own, frz1_dat, papp_own, pcop_list, ptry_ok, ptry_exc, ptry_bad, seqk_next, seqk_brk, seqk_cont, seqk_ret, seqk_exc, seqk_bad, seqk_ite, ifk_true, ifk_false, ifk_dec, ifk_not, ifk_exc, ifk_bad, ifk_ite, fink_ret, fink_next, fink_exc, fink_bad, fink_ite, upd_eq, upd_ne, bindPE_nil, bindPE_cons, none0_app, look_hit, look_ne, ok_bind, exc_bind, bad_bind, ite_bind, pcmp_eq_s, pcmp_ne_s, pcmp_eq_i, pcmp_ne_i, pcmp_lt, pcmp_gt, pcmp_ge, pbin_add_s, pbin_add_i, pbin_add_l, pbin_sub, pbin_mod, pbin_fdiv, pbool_b, pint_i, pstr_s, plen_s, plen_l, plen_t, plist_l, ofS_inj, String.reduceEq, String.reduceNe, List.zip_cons_cons, List.zip_nil_left, List.map_cons, List.map_nil, List.nil_append, List.append_nil, List.cons_append, ite_true, ite_false, decide_false, decide_true, Bool.not_true, Bool.not_false, or_true, true_or, or_false, false_or, or_self, and_self, and_true, true_and, and_false, false_and, not_true_eq_false, not_false_eq_true, reduceCtorEq, Bool.false_eq_true, Bool.true_eq_false, ← decide_not, decide_eq_true_eq, tx_inj, tx_len, ne_eq, Classical.not_not, eq13, eq10, eq1310, eq0, List.cons.injEq, C6_G, C6_F, h1, h2, ch, g1]
      by_cases g2 : c = q
      · have g1' : ¬ (q = d) := fun h => g1 (g2.trans h)
        simp -implicitDefEqProofs only [↓reduceIte, ↓pex_seq, pex_nil, pex_ret, pex_cont, pex_asg, pex_own, pex_pop, pex_cop, pex_app, pex_raise, pex_try, pex_frz, pex_if, pex_while, pex_frn, pex_rng, fq_ok, fq_exc, fk_next, fk_cont, fk_ret, fk_exc, fk_ite, fr_nil, pev_con, pev_var, pev_tab, pev_bin, pev_neg, pev_not, pev_bo, pev_cmp, pev_ty, pev_tup, pev_lst, pev_sub, pev_cut, pev_meth, pev_replC, pev_replV, pev_replD, pev_call, pev_len, pev_lenO, pev_lis, pevs_nil, pevs_cons, peo_no, peo_opt, ptest_eq, pbo_or, pbo_and, pbo_one, piter_l, piter_t, piter_s, prange_i, pvar_dat, ptab_some, plenO_dat, plenO_own, pfn_some, pstrV_str, frz1_own, frz1_dat, papp_own, pcop_list, ptry_ok, ptry_exc, ptry_bad, seqk_next, seqk_brk, seqk_cont, seqk_ret, seqk_exc, seqk_bad, seqk_ite, ifk_true, ifk_false, ifk_dec, ifk_not, ifk_exc, ifk_bad, ifk_ite, fink_ret, fink_next, fink_exc, fink_bad, fink_ite, upd_eq, upd_ne, bindPE_nil, bindPE_cons, none0_app, look_hit, look_ne, ok_bind, exc_bind, bad_bind, ite_bind, pcmp_eq_s, pcmp_ne_s, pcmp_eq_i, pcmp_ne_i, pcmp_lt, pcmp_gt, pcmp_ge, pbin_add_s, pbin_add_i, pbin_add_l, pbin_sub, pbin_mod, pbin_fdiv, pbool_b, pint_i, pstr_s, plen_s, plen_l, plen_t, plist_l, ofS_inj, String.reduceEq, String.reduceNe, List.zip_cons_cons, List.zip_nil_left, List.map_cons, List.map_nil, List.nil_append, List.append_nil, List.cons_append, ite_true, ite_false, decide_false, decide_true, Bool.not_true, Bool.not_false, or_true, true_or, or_false, false_or, or_self, and_self, and_true, true_and, and_false, false_and, not_true_eq_false, not_false_eq_true, reduceCtorEq, Bool.false_eq_true, Bool.true_eq_false, ← decide_not, decide_eq_true_eq, tx_inj, tx_len, ne_eq, Classical.not_not, eq13, eq10, eq1310, eq0, List.cons.injEq, C6_G, C6_F, h1, h2, ch, g1', g2]
      by_cases g3 : c = 13
      · simp -implicitDefEqProofs only [↓reduceIte, ↓pex_seq, pex_nil, pex_ret, pex_cont, pex_asg, pex_own, pex_pop, pex_cop, pex_app, pex_raise, pex_try, pex_frz, pex_if, pex_while, pex_frn, pex_rng, fq_ok, fq_exc, fk_next, fk_cont, fk_ret, fk_exc, fk_ite, fr_nil, pev_con, pev_var, pev_tab, pev_bin, pev_neg, pev_not, pev_bo, pev_cmp, pev_ty, pev_tup, pev_lst, pev_sub, pev_cut, pev_meth, pev_replC, pev_replV, pev_replD, pev_call, pev_len, pev_lenO, pev_lis, pevs_nil, pevs_cons, peo_no, peo_opt, ptest_eq, pbo_or, pbo_and, pbo_one, piter_l, piter_t, piter_s, prange_i, pvar_dat, ptab_some, plenO_dat, plenO_own, pfn_some, pstrV_str, frz1_own, frz1_dat, papp_own, pcop_list, ptry_ok, ptry_exc, ptry_bad, seqk_next, seqk_brk, seqk_cont, seqk_ret, seqk_exc, seqk_bad, seqk_ite, ifk_true, ifk_false, ifk_dec, ifk_not, ifk_exc, ifk_bad, ifk_ite, fink_ret, fink_next, fink_exc, fink_bad, fink_ite, upd_eq, upd_ne, bindPE_nil, bindPE_cons, none0_app, look_hit, look_ne, ok_bind, exc_bind, bad_bind, ite_bind, pcmp_eq_s, pcmp_ne_s, pcmp_eq_i, pcmp_ne_i, pcmp_lt, pcmp_gt, pcmp_ge, pbin_add_s, pbin_add_i, pbin_add_l, pbin_sub, pbin_mod, pbin_fdiv, pbool_b, pint_i, pstr_s, plen_s, plen_l, plen_t, plist_l, ofS_inj, String.reduceEq, String.reduceNe, List.zip_cons_cons, List.zip_nil_left, List.map_cons, List.map_nil, List.nil_append, List.append_nil, List.cons_append, ite_true, ite_false, decide_false, decide_true, Bool.not_true, Bool.not_false, or_true, true_or, or_false, false_or, or_self, and_self, and_true, true_and, and_false, false_and, not_true_eq_false, not_false_eq_true, reduceCtorEq, Bool.false_eq_true, Bool.true_eq_false, ← decide_not, decide_eq_true_eq, tx_inj, tx_len, ne_eq, Classical.not_not, eq13, eq10, eq1310, eq0, List.cons.injEq, C6_G, C6_F, h1, h2, ch, g1, g2, g3]
        rw [g3] at g1 g2
        simp [g1, g2, ok_bind, fk_ret]
      have g4 : c = 10 := by rcases k1 with h | h | h | h <;> first | exact absurd h g1 | exact absurd h g2 | exact absurd h g3 | exact h
      simp -implicitDefEqProofs only [↓reduceIte, ↓pex_seq, pex_nil, pex_ret, pex_cont, pex_asg, pex_own, pex_pop, pex_cop, pex_app, pex_raise, pex_try, pex_frz, pex_if, pex_while, pex_frn, pex_rng, fq_ok, fq_exc, fk_next, fk_cont, fk_ret, fk_exc, fk_ite, fr_nil, pev_con, pev_var, pev_tab, pev_bin, pev_neg, pev_not, pev_bo, pev_cmp, pev_ty, pev_tup, pev_lst, pev_sub, pev_cut, pev_meth, pev_replC, pev_replV, pev_replD, pev_call, pev_len, pev_lenO, pev_lis, pevs_nil, pevs_cons, peo_no, peo_opt, ptest_eq, pbo_or, pbo_and, pbo_one, piter_l, piter_t, piter_s, prange_i, pvar_dat, ptab_some, plenO_dat, plenO_own, pfn_some, pstrV_str, frz1_own, frz1_dat, papp_own, pcop_list, ptry_ok, ptry_exc, ptry_bad, seqk_next, seqk_brk, seqk_cont, seqk_ret, seqk_exc, seqk_bad, seqk_ite, ifk_true, ifk_false, ifk_dec, ifk_not, ifk_exc, ifk_bad, ifk_ite, fink_ret, fink_next, fink_exc, fink_bad, fink_ite, upd_eq, upd_ne, bindPE_nil, bindPE_cons, none0_app, look_hit, look_ne, ok_bind, exc_bind, bad_bind, ite_bind, pcmp_eq_s, pcmp_ne_s, pcmp_eq_i, pcmp_ne_i, pcmp_lt, pcmp_gt, pcmp_ge, pbin_add_s, pbin_add_i, pbin_add_l, pbin_sub, pbin_mod, pbin_fdiv, pbool_b, pint_i, pstr_s, plen_s, plen_l, plen_t, plist_l, ofS_inj, String.reduceEq, String.reduceNe, List.zip_cons_cons, List.zip_nil_left, List.map_cons, List.map_nil, List.nil_append, List.append_nil, List.cons_append, ite_true, ite_false, decide_false, decide_true, Bool.not_true, Bool.not_false, or_true, true_or, or_false, false_or, or_self, and_self, and_true, true_and, and_false, false_and, not_true_eq_false, not_false_eq_true, reduceCtorEq, Bool.false_eq_true, Bool.true_eq_false, ← decide_not, decide_eq_true_eq, tx_inj, tx_len, ne_eq, Classical.not_not, eq13, eq10, eq1310, eq0, List.cons.injEq, C6_G, C6_F, h1, h2, ch, g1, g2, g3, g4]
      rw [g4] at g1 g2
      simp [g1, g2, ok_bind, fk_ret]
    · refine ⟨ρ', ?_⟩
      have : special d q c = false := by cases h : special d q c with | false => rfl | true => exact absurd (hsp.mp h) k1
      rw [this, Bool.false_or, ← ih]
      rw [not_or, not_or, not_or] at k1
      obtain ⟨g1, g2, g3, g4⟩ := k1
      simp -implicitDefEqProofs only [↓reduceIte, ↓pex_seq, pex_nil, pex_ret, pex_cont, pex_asg, pex_own, pex_pop, pex_cop, pex_app, pex_raise, pex_try, pex_frz, pex_if, pex_while, pex_frn, pex_rng, fq_ok, fq_exc, fk_next, fk_cont, fk_ret, fk_exc, fk_ite, fr_nil, pev_con, pev_var, pev_tab, pev_bin, pev_neg, pev_not, pev_bo, pev_cmp, pev_ty, pev_tup, pev_lst, pev_sub, pev_cut, pev_meth, pev_replC, pev_replV, pev_replD, pev_call, pev_len, pev_lenO, pev_lis, pevs_nil, pevs_cons, peo_no, peo_opt, ptest_eq, pbo_or, pbo_and, pbo_one, piter_l, piter_t, piter_s, prange_i, pvar_dat, ptab_some, plenO_dat, plenO_own, pfn_some, pstrV_str, frz1_own, frz1_dat, papp_own, pcop_list, ptry_ok, ptry_exc, ptry_bad, seqk_next, seqk_brk, seqk_cont, seqk_ret, seqk_exc, seqk_bad, seqk_ite, ifk_true, ifk_false, ifk_dec, ifk_not, ifk_exc, ifk_bad, ifk_ite, fink_ret, fink_next, fink_exc, fink_bad, fink_ite, upd_eq, upd_ne, bindPE_nil, bindPE_cons, none0_app, look_hit, look_ne, ok_bind, exc_bind, bad_bind, ite_bind, pcmp_eq_s, pcmp_ne_s, pcmp_eq_i, pcmp_ne_i, pcmp_lt, pcmp_gt, pcmp_ge, pbin_add_s, pbin_add_i, pbin_add_l, pbin_sub, pbin_mod, pbin_fdiv, pbool_b, pint_i, pstr_s, plen_s, plen_l, plen_t, plist_l, ofS_inj, String.reduceEq, String.reduceNe, List.zip_cons_cons, List.zip_nil_left, List.map_cons, List.map_nil, List.nil_append, List.append_nil, List.cons_append, ite_true, ite_false, decide_false, decide_true, Bool.not_true, Bool.not_false, or_true, true_or, or_false, false_or, or_self, and_self, and_true, true_and, and_false, false_and, not_true_eq_false, not_false_eq_true, reduceCtorEq, Bool.false_eq_true, Bool.true_eq_false, ← decide_not, decide_eq_true_eq, tx_inj, tx_len, ne_eq, Classical.not_not, eq13, eq10, eq1310, eq0, List.cons.injEq, C6_G, C6_F, h1, h2, ch, g1, g2, g3, g4]
theorem f6_eq (f : List Nat) (d q : Nat) : f6 [.str (tx f), .str (tx [d]), .str (tx [q])] = .ok (.bool (needs d q f)) := by
  have K : ∀ ρ, ρ (Str.ofString "delimiter") = some (.dat (.str (tx [d]))) → ρ (Str.ofString "quote") = some (.dat (.str (tx [q]))) → fink (seqk C6 (R6) (fr C6 ["c"] F6 (f.map ch) ρ)) = .ok (.bool (needs d q f)) := by
    intro ρ h1 h2
    obtain ⟨ρ', e⟩ := loop6 f ρ h1 h2
    rw [e]
    cases hn : needs d q f with
    | true => rfl
    | false =>
      unfold R6
      simp -implicitDefEqProofs only [↓reduceIte, ↓pex_seq, pex_nil, pex_ret, pex_cont, pex_asg, pex_own, pex_pop, pex_cop, pex_app, pex_raise, pex_try, pex_frz, pex_if, pex_while, pex_frn, pex_rng, fq_ok, fq_exc, fk_next, fk_cont, fk_ret, fk_exc, fk_ite, fr_nil, pev_con, pev_var, pev_tab, pev_bin, pev_neg, pev_not, pev_bo, pev_cmp, pev_ty, pev_tup, pev_lst, pev_sub, pev_cut, pev_meth, pev_replC, pev_replV, pev_replD, pev_call, pev_len, pev_lenO, pev_lis, pevs_nil, pevs_cons, peo_no, peo_opt, ptest_eq, pbo_or, pbo_and, pbo_one, piter_l, piter_t, piter_s, prange_i, pvar_dat, ptab_some, plenO_dat, plenO_own, pfn_some, pstrV_str, frz1_own, frz1_dat, papp_own, pcop_list, ptry_ok, ptry_exc, ptry_bad, seqk_next, seqk_brk, seqk_cont, seqk_ret, seqk_exc, seqk_bad, seqk_ite, ifk_true, ifk_false, ifk_dec, ifk_not, ifk_exc, ifk_bad, ifk_ite, fink_ret, fink_next, fink_exc, fink_bad, fink_ite, upd_eq, upd_ne, bindPE_nil, bindPE_cons, none0_app, look_hit, look_ne, ok_bind, exc_bind, bad_bind, ite_bind, pcmp_eq_s, pcmp_ne_s, pcmp_eq_i, pcmp_ne_i, pcmp_lt, pcmp_gt, pcmp_ge, pbin_add_s, pbin_add_i, pbin_add_l, pbin_sub, pbin_mod, pbin_fdiv, pbool_b, pint_i, pstr_s, plen_s, plen_l, plen_t, plist_l, ofS_inj, String.reduceEq, String.reduceNe, List.zip_cons_cons, List.zip_nil_left, List.map_cons, List.map_nil, List.nil_append, List.append_nil, List.cons_append, ite_true, ite_false, decide_false, decide_true, Bool.not_true, Bool.not_false, or_true, true_or, or_false, false_or, or_self, and_self, and_true, true_and, and_false, false_and, not_true_eq_false, not_false_eq_true, reduceCtorEq, Bool.false_eq_true, Bool.true_eq_false, ← decide_not, decide_eq_true_eq, tx_inj, tx_len, ne_eq, Classical.not_not, eq13, eq10, eq1310, eq0, List.cons.injEq, C6_G, C6_F]
  unfold f6 B6
  rw [pcall_fin _ _ _ _ rfl]
  simp -implicitDefEqProofs only [↓reduceIte, ↓pex_seq, pex_nil, pex_ret, pex_cont, pex_asg, pex_own, pex_pop, pex_cop, pex_app, pex_raise, pex_try, pex_frz, pex_if, pex_while, pex_frn, pex_rng, fq_ok, fq_exc, fk_next, fk_cont, fk_ret, fk_exc, fk_ite, fr_nil, pev_con, pev_var, pev_tab, pev_bin, pev_neg, pev_not, pev_bo, pev_cmp, pev_ty, pev_tup, pev_lst, pev_sub, pev_cut, pev_meth, pev_replC, pev_replV, pev_replD, pev_call, pev_len, pev_lenO, pev_lis, pevs_nil, pevs_cons, peo_no, peo_opt, ptest_eq, pbo_or, pbo_and, pbo_one, piter_l, piter_t, piter_s, prange_i, pvar_dat, ptab_some, plenO_dat, plenO_own, pfn_some, pstrV_str, frz1_own, frz1_dat, papp_own, pcop_list, ptry_ok, ptry_exc, ptry_bad, seqk_next, seqk_brk, seqk_cont, seqk_ret, seqk_exc, seqk_bad, seqk_ite, ifk_true, ifk_false, ifk_dec, ifk_not, ifk_exc, ifk_bad, ifk_ite, fink_ret, fink_next, fink_exc, fink_bad, fink_ite, upd_eq, upd_ne, bindPE_nil, bindPE_cons, none0_app, look_hit, look_ne, ok_bind, exc_bind, bad_bind, ite_bind, pcmp_eq_s, pcmp_ne_s, pcmp_eq_i, pcmp_ne_i, pcmp_lt, pcmp_gt, pcmp_ge, pbin_add_s, pbin_add_i, pbin_add_l, pbin_sub, pbin_mod, pbin_fdiv, pbool_b, pint_i, pstr_s, plen_s, plen_l, plen_t, plist_l, ofS_inj, String.reduceEq, String.reduceNe, List.zip_cons_cons, List.zip_nil_left, List.map_cons, List.map_nil, List.nil_append, List.append_nil, List.cons_append, ite_true, ite_false, decide_false, decide_true, Bool.not_true, Bool.not_false, or_true, true_or, or_false, false_or, or_self, and_self, and_true, true_and, and_false, false_and, not_true_eq_false, not_false_eq_true, reduceCtorEq, Bool.false_eq_true, Bool.true_eq_false, ← decide_not, decide_eq_true_eq, tx_inj, tx_len, ne_eq, Classical.not_not, eq13, eq10, eq1310, eq0, List.cons.injEq, C6_G, C6_F, signsD_tx]
  refine K _ ?_ ?_ <;> simp -implicitDefEqProofs only [upd_eq, upd_ne, String.reduceEq, not_false_eq_true]
noncomputable def R7 : QS := (.seq (.app "parts" (.var "quote")) (.seq (.frz "parts" (.ret (.meth .join (.con (.str (Str.ofString ""))) (.var "parts")))) .nil))
noncomputable def F7 : QS := (.seq (.ite (.cmp .Eq (.var "c") (.var "quote")) (.seq (.app "parts" (.var "quote")) (.seq (.app "parts" (.var "quote")) .nil)) (.seq (.app "parts" (.var "c")) .nil)) .nil)
noncomputable def B7 : QS := (.seq (.ite (.not (.call "_needs_quotes" (.cons (.var "field") (.cons (.var "delimiter") (.cons (.var "quote") .nil))))) (.seq (.ret (.var "field")) .nil) .nil) (.seq (.own "parts" (.cons (.var "quote") .nil)) (.seq (.frn "c" (.var "field") F7) R7)))
noncomputable def C7 : PC := mkC [] [("_needs_quotes", f6)]
theorem C7_G : C7.G = look [] := rfl
theorem C7_F : C7.F = look [("_needs_quotes", f6)] := rfl
theorem C7_fuel : C7.fuel = LIM := rfl
noncomputable def f7 : List PyData → Out PyData := pcall C7 [Str.ofString "field", Str.ofString "delimiter", Str.ofString "quote"] B7
theorem loop7 {q : Nat} : ∀ (f acc : List Nat) (ρ : PE), acc.length + 2 * f.length < 10000000 → ρ (Str.ofString "quote") = some (.dat (.str (tx [q]))) → ρ (Str.ofString "parts") = some (.own (acc.map ch)) →
    ∃ ρ', fr C7 ["c"] F7 (f.map ch) ρ = .ok (.next, ρ') ∧ ρ' (Str.ofString "quote") = some (.dat (.str (tx [q]))) ∧ ρ' (Str.ofString "parts") = some (.own ((acc ++ dbl q f).map ch))
  | [], acc, ρ, _, h1, h2 => ⟨ρ, by simp [fr_nil], h1, by simpa [dbl] using h2⟩
  | c :: f, acc, ρ, hl, h1, h2 => by
    have hL : LIM = 16777216 := rfl
    rw [List.length_cons] at hl
    have e1 : ((acc.map ch).length < LIM) = True := eq_true (by rw [List.length_map]; omega)
    have e2 : ((acc.map ch ++ [PyData.str (tx [q])]).length < LIM) = True := eq_true (by rw [List.length_append, List.length_map, List.length_cons, List.length_nil]; omega)
    by_cases g : c = q
    · obtain ⟨ρ', ih, k1, k2⟩ := loop7 (q := q) f (acc ++ [q, q]) (upd (upd (upd ρ (Str.ofString "c") (.dat (.str (tx [q])))) (Str.ofString "parts") (.own (acc.map ch ++ [.str (tx [q])]))) (Str.ofString "parts") (.own (acc.map ch ++ [.str (tx [q])] ++ [.str (tx [q])])))
        (by rw [List.length_append, List.length_cons, List.length_cons, List.length_nil]; omega) (by simp -implicitDefEqProofs only [upd_eq, upd_ne, String.reduceEq, not_false_eq_true, none0_app, h1]) (by simp -implicitDefEqProofs only [upd_eq, upd_ne, String.reduceEq, not_false_eq_true, none0_app, List.map_append, List.map_cons, List.map_nil, ch, List.append_assoc, List.cons_append, List.nil_append])
      refine ⟨ρ', ?_, k1, by rw [k2, dbl_cons, if_pos g, List.append_assoc]⟩
      rw [← ih, List.map_cons]
      unfold F7
      rw [fr_name]
      simp -implicitDefEqProofs only [↓reduceIte, ↓pex_seq, pex_nil, pex_ret, pex_cont, pex_asg, pex_own, pex_pop, pex_cop, pex_app, pex_raise, pex_try, pex_frz, pex_if, pex_while, pex_frn, pex_rng, fq_ok, fq_exc, fk_next, fk_cont, fk_ret, fk_exc, fk_ite, fr_nil, pev_con, pev_var, pev_tab, pev_bin, pev_neg, pev_not, pev_bo, pev_cmp, pev_ty, pev_tup, pev_lst, pev_sub, pev_cut, pev_meth, pev_replC, pev_replV, pev_replD, pev_call, pev_len, pev_lenO, pev_lis, pevs_nil, pevs_cons, peo_no, peo_opt, ptest_eq, pbo_or, pbo_and, pbo_one, piter_l, piter_t, piter_s, prange_i, pvar_dat, ptab_some, plenO_dat, plenO_own, pfn_some, pstrV_str, frz1_own, frz1_dat, papp_own, pcop_list, ptry_ok, ptry_exc, ptry_bad, seqk_next, seqk_brk, seqk_cont, seqk_ret, seqk_exc, seqk_bad, seqk_ite, ifk_true, ifk_false, ifk_dec, ifk_not, ifk_exc, ifk_bad, ifk_ite, fink_ret, fink_next, fink_exc, fink_bad, fink_ite, upd_eq, upd_ne, bindPE_nil, bindPE_cons, none0_app, look_hit, look_ne, ok_bind, exc_bind, bad_bind, ite_bind, pcmp_eq_s, pcmp_ne_s, pcmp_eq_i, pcmp_ne_i, pcmp_lt, pcmp_gt, pcmp_ge, pbin_add_s, pbin_add_i, pbin_add_l, pbin_sub, pbin_mod, pbin_fdiv, pbool_b, pint_i, pstr_s, plen_s, plen_l, plen_t, plist_l, ofS_inj, String.reduceEq, String.reduceNe, List.zip_cons_cons, List.zip_nil_left, List.map_cons, List.map_nil, List.nil_append, List.append_nil, List.cons_append, ite_true, ite_false, decide_false, decide_true, Bool.not_true, Bool.not_false, or_true, true_or, or_false, false_or, or_self, and_self, and_true, true_and, and_false, false_and, not_true_eq_false, not_false_eq_true, reduceCtorEq, Bool.false_eq_true, Bool.true_eq_false, ← decide_not, decide_eq_true_eq, tx_inj, tx_len, ne_eq, Classical.not_not, eq13, eq10, eq1310, eq0, List.cons.injEq, C7_G, C7_F, h1, h2, ch, g, e1, e2]
    · obtain ⟨ρ', ih, k1, k2⟩ := loop7 (q := q) f (acc ++ [c]) (upd (upd ρ (Str.ofString "c") (.dat (.str (tx [c])))) (Str.ofString "parts") (.own (acc.map ch ++ [.str (tx [c])])))
        (by rw [List.length_append, List.length_cons, List.length_nil]; omega) (by simp -implicitDefEqProofs only [upd_eq, upd_ne, String.reduceEq, not_false_eq_true, none0_app, h1]) (by simp -implicitDefEqProofs only [upd_eq, upd_ne, String.reduceEq, not_false_eq_true, none0_app, List.map_append, List.map_cons, List.map_nil, ch])
      refine ⟨ρ', ?_, k1, by rw [k2, dbl_cons, if_neg g, List.append_assoc]⟩
      rw [← ih, List.map_cons]
      unfold F7
      rw [fr_name]
      simp -implicitDefEqProofs only [↓reduceIte, ↓pex_seq, pex_nil, pex_ret, pex_cont, pex_asg, pex_own, pex_pop, pex_cop, pex_app, pex_raise, pex_try, pex_frz, pex_if, pex_while, pex_frn, pex_rng, fq_ok, fq_exc, fk_next, fk_cont, fk_ret, fk_exc, fk_ite, fr_nil, pev_con, pev_var, pev_tab, pev_bin, pev_neg, pev_not, pev_bo, pev_cmp, pev_ty, pev_tup, pev_lst, pev_sub, pev_cut, pev_meth, pev_replC, pev_replV, pev_replD, pev_call, pev_len, pev_lenO, pev_lis, pevs_nil, pevs_cons, peo_no, peo_opt, ptest_eq, pbo_or, pbo_and, pbo_one, piter_l, piter_t, piter_s, prange_i, pvar_dat, ptab_some, plenO_dat, plenO_own, pfn_some, pstrV_str, frz1_own, frz1_dat, papp_own, pcop_list, ptry_ok, ptry_exc, ptry_bad, seqk_next, seqk_brk, seqk_cont, seqk_ret, seqk_exc, seqk_bad, seqk_ite, ifk_true, ifk_false, ifk_dec, ifk_not, ifk_exc, ifk_bad, ifk_ite, fink_ret, fink_next, fink_exc, fink_bad, fink_ite, upd_eq, upd_ne, bindPE_nil, bindPE_cons, none0_app, look_hit, look_ne, ok_bind, exc_bind, bad_bind, ite_bind, pcmp_eq_s, pcmp_ne_s, pcmp_eq_i, pcmp_ne_i, pcmp_lt, pcmp_gt, pcmp_ge, pbin_add_s, pbin_add_i, pbin_add_l, pbin_sub, pbin_mod, pbin_fdiv, pbool_b, pint_i, pstr_s, plen_s, plen_l, plen_t, plist_l, ofS_inj, String.reduceEq, String.reduceNe, List.zip_cons_cons, List.zip_nil_left, List.map_cons, List.map_nil, List.nil_append, List.append_nil, List.cons_append, ite_true, ite_false, decide_false, decide_true, Bool.not_true, Bool.not_false, or_true, true_or, or_false, false_or, or_self, and_self, and_true, true_and, and_false, false_and, not_true_eq_false, not_false_eq_true, reduceCtorEq, Bool.false_eq_true, Bool.true_eq_false, ← decide_not, decide_eq_true_eq, tx_inj, tx_len, ne_eq, Classical.not_not, eq13, eq10, eq1310, eq0, List.cons.injEq, C7_G, C7_F, h1, h2, ch, g, e1, e2]
theorem f7_eq (f : List Nat) (d q : Nat) (hf : f.length < 1000000) : f7 [.str (tx f), .str (tx [d]), .str (tx [q])] = .ok (.str (tx (fmt d q f))) := by
  have hL : LIM = 16777216 := rfl
  have K : ∀ ρ, ρ (Str.ofString "quote") = some (.dat (.str (tx [q]))) → ρ (Str.ofString "parts") = some (.own ([q].map ch)) → fink (seqk C7 R7 (fr C7 ["c"] F7 (f.map ch) ρ)) = .ok (.str (tx (quoted q f))) := by
    intro ρ h1 h2
    obtain ⟨ρ', e, k1, k2⟩ := loop7 (q := q) f [q] ρ (by simp; omega) h1 h2
    have e1 : ((([q] ++ dbl q f).map ch).length < LIM) = True := eq_true (by have := dbl_len q f; simp; omega)
    have j1 : pmeth .join (Str.ofString "") (.list (([q] ++ dbl q f).map ch ++ [.str (tx [q])])) = .ok (.str (tx (quoted q f))) := by
      rw [s0]
      have : ([q] ++ dbl q f).map ch ++ [.str (tx [q])] = (quoted q f).map ch := by simp [quoted, ch]
      rw [this]
      exact pmeth_join_ch _ (by have := dbl_len q f; simp [quoted]; omega)
    rw [e, seqk_next]
    generalize hw : [q] ++ dbl q f = w at k2 e1 j1
    unfold R7
    simp -implicitDefEqProofs only [↓reduceIte, ↓pex_seq, pex_nil, pex_ret, pex_cont, pex_asg, pex_own, pex_pop, pex_cop, pex_app, pex_raise, pex_try, pex_frz, pex_if, pex_while, pex_frn, pex_rng, fq_ok, fq_exc, fk_next, fk_cont, fk_ret, fk_exc, fk_ite, fr_nil, pev_con, pev_var, pev_tab, pev_bin, pev_neg, pev_not, pev_bo, pev_cmp, pev_ty, pev_tup, pev_lst, pev_sub, pev_cut, pev_meth, pev_replC, pev_replV, pev_replD, pev_call, pev_len, pev_lenO, pev_lis, pevs_nil, pevs_cons, peo_no, peo_opt, ptest_eq, pbo_or, pbo_and, pbo_one, piter_l, piter_t, piter_s, prange_i, pvar_dat, ptab_some, plenO_dat, plenO_own, pfn_some, pstrV_str, frz1_own, frz1_dat, papp_own, pcop_list, ptry_ok, ptry_exc, ptry_bad, seqk_next, seqk_brk, seqk_cont, seqk_ret, seqk_exc, seqk_bad, seqk_ite, ifk_true, ifk_false, ifk_dec, ifk_not, ifk_exc, ifk_bad, ifk_ite, fink_ret, fink_next, fink_exc, fink_bad, fink_ite, upd_eq, upd_ne, bindPE_nil, bindPE_cons, none0_app, look_hit, look_ne, ok_bind, exc_bind, bad_bind, ite_bind, pcmp_eq_s, pcmp_ne_s, pcmp_eq_i, pcmp_ne_i, pcmp_lt, pcmp_gt, pcmp_ge, pbin_add_s, pbin_add_i, pbin_add_l, pbin_sub, pbin_mod, pbin_fdiv, pbool_b, pint_i, pstr_s, plen_s, plen_l, plen_t, plist_l, ofS_inj, String.reduceEq, String.reduceNe, List.zip_cons_cons, List.zip_nil_left, List.map_cons, List.map_nil, List.nil_append, List.append_nil, List.cons_append, ite_true, ite_false, decide_false, decide_true, Bool.not_true, Bool.not_false, or_true, true_or, or_false, false_or, or_self, and_self, and_true, true_and, and_false, false_and, not_true_eq_false, not_false_eq_true, reduceCtorEq, Bool.false_eq_true, Bool.true_eq_false, ← decide_not, decide_eq_true_eq, tx_inj, tx_len, ne_eq, Classical.not_not, eq13, eq10, eq1310, eq0, List.cons.injEq, C7_G, C7_F, k1, k2, e1, j1]
  have e2 : (([PyData.str (tx [q])] : List PyData).length ≤ LIM) = True := eq_true (by simp [LIM])
  unfold f7 B7
  rw [pcall_fin _ _ _ _ rfl]
  cases hn : needs d q f with
  | false => simp -implicitDefEqProofs only [↓reduceIte, ↓pex_seq, pex_nil, pex_ret, pex_cont, pex_asg, pex_own, pex_pop, pex_cop, pex_app, pex_raise, pex_try, pex_frz, pex_if, pex_while, pex_frn, pex_rng, fq_ok, fq_exc, fk_next, fk_cont, fk_ret, fk_exc, fk_ite, fr_nil, pev_con, pev_var, pev_tab, pev_bin, pev_neg, pev_not, pev_bo, pev_cmp, pev_ty, pev_tup, pev_lst, pev_sub, pev_cut, pev_meth, pev_replC, pev_replV, pev_replD, pev_call, pev_len, pev_lenO, pev_lis, pevs_nil, pevs_cons, peo_no, peo_opt, ptest_eq, pbo_or, pbo_and, pbo_one, piter_l, piter_t, piter_s, prange_i, pvar_dat, ptab_some, plenO_dat, plenO_own, pfn_some, pstrV_str, frz1_own, frz1_dat, papp_own, pcop_list, ptry_ok, ptry_exc, ptry_bad, seqk_next, seqk_brk, seqk_cont, seqk_ret, seqk_exc, seqk_bad, seqk_ite, ifk_true, ifk_false, ifk_dec, ifk_not, ifk_exc, ifk_bad, ifk_ite, fink_ret, fink_next, fink_exc, fink_bad, fink_ite, upd_eq, upd_ne, bindPE_nil, bindPE_cons, none0_app, look_hit, look_ne, ok_bind, exc_bind, bad_bind, ite_bind, pcmp_eq_s, pcmp_ne_s, pcmp_eq_i, pcmp_ne_i, pcmp_lt, pcmp_gt, pcmp_ge, pbin_add_s, pbin_add_i, pbin_add_l, pbin_sub, pbin_mod, pbin_fdiv, pbool_b, pint_i, pstr_s, plen_s, plen_l, plen_t, plist_l, ofS_inj, String.reduceEq, String.reduceNe, List.zip_cons_cons, List.zip_nil_left, List.map_cons, List.map_nil, List.nil_append, List.append_nil, List.cons_append, ite_true, ite_false, decide_false, decide_true, Bool.not_true, Bool.not_false, or_true, true_or, or_false, false_or, or_self, and_self, and_true, true_and, and_false, false_and, not_true_eq_false, not_false_eq_true, reduceCtorEq, Bool.false_eq_true, Bool.true_eq_false, ← decide_not, decide_eq_true_eq, tx_inj, tx_len, ne_eq, Classical.not_not, eq13, eq10, eq1310, eq0, List.cons.injEq, C7_G, C7_F, f6_eq, hn, fmt]
  | true =>
    simp -implicitDefEqProofs only [↓reduceIte, ↓pex_seq, pex_nil, pex_ret, pex_cont, pex_asg, pex_own, pex_pop, pex_cop, pex_app, pex_raise, pex_try, pex_frz, pex_if, pex_while, pex_frn, pex_rng, fq_ok, fq_exc, fk_next, fk_cont, fk_ret, fk_exc, fk_ite, fr_nil, pev_con, pev_var, pev_tab, pev_bin, pev_neg, pev_not, pev_bo, pev_cmp, pev_ty, pev_tup, pev_lst, pev_sub, pev_cut, pev_meth, pev_replC, pev_replV, pev_replD, pev_call, pev_len, pev_lenO, pev_lis, pevs_nil, pevs_cons, peo_no, peo_opt, ptest_eq, pbo_or, pbo_and, pbo_one, piter_l, piter_t, piter_s, prange_i, pvar_dat, ptab_some, plenO_dat, plenO_own, pfn_some, pstrV_str, frz1_own, frz1_dat, papp_own, pcop_list, ptry_ok, ptry_exc, ptry_bad, seqk_next, seqk_brk, seqk_cont, seqk_ret, seqk_exc, seqk_bad, seqk_ite, ifk_true, ifk_false, ifk_dec, ifk_not, ifk_exc, ifk_bad, ifk_ite, fink_ret, fink_next, fink_exc, fink_bad, fink_ite, upd_eq, upd_ne, bindPE_nil, bindPE_cons, none0_app, look_hit, look_ne, ok_bind, exc_bind, bad_bind, ite_bind, pcmp_eq_s, pcmp_ne_s, pcmp_eq_i, pcmp_ne_i, pcmp_lt, pcmp_gt, pcmp_ge, pbin_add_s, pbin_add_i, pbin_add_l, pbin_sub, pbin_mod, pbin_fdiv, pbool_b, pint_i, pstr_s, plen_s, plen_l, plen_t, plist_l, ofS_inj, String.reduceEq, String.reduceNe, List.zip_cons_cons, List.zip_nil_left, List.map_cons, List.map_nil, List.nil_append, List.append_nil, List.cons_append, ite_true, ite_false, decide_false, decide_true, Bool.not_true, Bool.not_false, or_true, true_or, or_false, false_or, or_self, and_self, and_true, true_and, and_false, false_and, not_true_eq_false, not_false_eq_true, reduceCtorEq, Bool.false_eq_true, Bool.true_eq_false, ← decide_not, decide_eq_true_eq, tx_inj, tx_len, ne_eq, Classical.not_not, eq13, eq10, eq1310, eq0, List.cons.injEq, C7_G, C7_F, f6_eq, hn, fmt, signsD_tx, e2]
    refine K _ ?_ ?_ <;> simp -implicitDefEqProofs only [upd_eq, upd_ne, String.reduceEq, not_false_eq_true, none0_app, List.map_cons, List.map_nil, ch]
noncomputable def B8 : QS := (.seq (.asg "checked" (.call "_check_dialect" (.cons (.var "dialect") .nil))) (.seq (.ret (.call "_format_checked" (.cons (.var "field") (.cons (.sub (.var "checked") (.con (.int 0))) (.cons (.sub (.var "checked") (.con (.int 1))) .nil))))) .nil))
noncomputable def C8 : PC := mkC [] [("_check_dialect", f2), ("_format_checked", f7)]
theorem C8_G : C8.G = look [] := rfl
theorem C8_F : C8.F = look [("_check_dialect", f2), ("_format_checked", f7)] := rfl
theorem C8_fuel : C8.fuel = LIM := rfl
noncomputable def f8 : List PyData → Out PyData := pcall C8 [Str.ofString "field", Str.ofString "dialect"] B8
theorem f8_bad {x D : PyData} (h : f2 [D] = .exc) : f8 [x, D] = .exc := by
  unfold f8 B8
  rw [pcall_fin _ _ _ _ rfl]
  simp -implicitDefEqProofs only [↓reduceIte, ↓pex_seq, pex_nil, pex_ret, pex_cont, pex_asg, pex_own, pex_pop, pex_cop, pex_app, pex_raise, pex_try, pex_frz, pex_if, pex_while, pex_frn, pex_rng, fq_ok, fq_exc, fk_next, fk_cont, fk_ret, fk_exc, fk_ite, fr_nil, pev_con, pev_var, pev_tab, pev_bin, pev_neg, pev_not, pev_bo, pev_cmp, pev_ty, pev_tup, pev_lst, pev_sub, pev_cut, pev_meth, pev_replC, pev_replV, pev_replD, pev_call, pev_len, pev_lenO, pev_lis, pevs_nil, pevs_cons, peo_no, peo_opt, ptest_eq, pbo_or, pbo_and, pbo_one, piter_l, piter_t, piter_s, prange_i, pvar_dat, ptab_some, plenO_dat, plenO_own, pfn_some, pstrV_str, frz1_own, frz1_dat, papp_own, pcop_list, ptry_ok, ptry_exc, ptry_bad, seqk_next, seqk_brk, seqk_cont, seqk_ret, seqk_exc, seqk_bad, seqk_ite, ifk_true, ifk_false, ifk_dec, ifk_not, ifk_exc, ifk_bad, ifk_ite, fink_ret, fink_next, fink_exc, fink_bad, fink_ite, upd_eq, upd_ne, bindPE_nil, bindPE_cons, none0_app, look_hit, look_ne, ok_bind, exc_bind, bad_bind, ite_bind, pcmp_eq_s, pcmp_ne_s, pcmp_eq_i, pcmp_ne_i, pcmp_lt, pcmp_gt, pcmp_ge, pbin_add_s, pbin_add_i, pbin_add_l, pbin_sub, pbin_mod, pbin_fdiv, pbool_b, pint_i, pstr_s, plen_s, plen_l, plen_t, plist_l, ofS_inj, String.reduceEq, String.reduceNe, List.zip_cons_cons, List.zip_nil_left, List.map_cons, List.map_nil, List.nil_append, List.append_nil, List.cons_append, ite_true, ite_false, decide_false, decide_true, Bool.not_true, Bool.not_false, or_true, true_or, or_false, false_or, or_self, and_self, and_true, true_and, and_false, false_and, not_true_eq_false, not_false_eq_true, reduceCtorEq, Bool.false_eq_true, Bool.true_eq_false, ← decide_not, decide_eq_true_eq, tx_inj, tx_len, ne_eq, Classical.not_not, eq13, eq10, eq1310, eq0, List.cons.injEq, C8_G, C8_F, h]
theorem f8_eq (f : List Nat) (d q : Nat) (nl : List Nat) (hf : f.length < 1000000) (ok : okDia [[d], [q], nl] = true) : f8 [.str (tx f), .tuple [.str (tx [d]), .str (tx [q]), .str (tx nl)]] = .ok (.str (tx (fmt d q f))) := by
  have c2 : f2 [.tuple [.str (tx [d]), .str (tx [q]), .str (tx nl)]] = .ok (.tuple [.str (tx [d]), .str (tx [q]), .str (tx nl)]) := by
    rw [f2_eq _ _ _ (by simp [LIM]) (by simp [LIM]), if_pos ok]
  have i0 : pitem (.tuple [.str (tx [d]), .str (tx [q]), .str (tx nl)]) 0 = .ok (.str (tx [d])) := pitem_tuple _ 0 _ rfl (by decide)
  have i1 : pitem (.tuple [.str (tx [d]), .str (tx [q]), .str (tx nl)]) 1 = .ok (.str (tx [q])) := pitem_tuple _ 1 _ rfl (by decide)
  unfold f8 B8
  rw [pcall_fin _ _ _ _ rfl]
  simp -implicitDefEqProofs only [↓reduceIte, ↓pex_seq, pex_nil, pex_ret, pex_cont, pex_asg, pex_own, pex_pop, pex_cop, pex_app, pex_raise, pex_try, pex_frz, pex_if, pex_while, pex_frn, pex_rng, fq_ok, fq_exc, fk_next, fk_cont, fk_ret, fk_exc, fk_ite, fr_nil, pev_con, pev_var, pev_tab, pev_bin, pev_neg, pev_not, pev_bo, pev_cmp, pev_ty, pev_tup, pev_lst, pev_sub, pev_cut, pev_meth, pev_replC, pev_replV, pev_replD, pev_call, pev_len, pev_lenO, pev_lis, pevs_nil, pevs_cons, peo_no, peo_opt, ptest_eq, pbo_or, pbo_and, pbo_one, piter_l, piter_t, piter_s, prange_i, pvar_dat, ptab_some, plenO_dat, plenO_own, pfn_some, pstrV_str, frz1_own, frz1_dat, papp_own, pcop_list, ptry_ok, ptry_exc, ptry_bad, seqk_next, seqk_brk, seqk_cont, seqk_ret, seqk_exc, seqk_bad, seqk_ite, ifk_true, ifk_false, ifk_dec, ifk_not, ifk_exc, ifk_bad, ifk_ite, fink_ret, fink_next, fink_exc, fink_bad, fink_ite, upd_eq, upd_ne, bindPE_nil, bindPE_cons, none0_app, look_hit, look_ne, ok_bind, exc_bind, bad_bind, ite_bind, pcmp_eq_s, pcmp_ne_s, pcmp_eq_i, pcmp_ne_i, pcmp_lt, pcmp_gt, pcmp_ge, pbin_add_s, pbin_add_i, pbin_add_l, pbin_sub, pbin_mod, pbin_fdiv, pbool_b, pint_i, pstr_s, plen_s, plen_l, plen_t, plist_l, ofS_inj, String.reduceEq, String.reduceNe, List.zip_cons_cons, List.zip_nil_left, List.map_cons, List.map_nil, List.nil_append, List.append_nil, List.cons_append, ite_true, ite_false, decide_false, decide_true, Bool.not_true, Bool.not_false, or_true, true_or, or_false, false_or, or_self, and_self, and_true, true_and, and_false, false_and, not_true_eq_false, not_false_eq_true, reduceCtorEq, Bool.false_eq_true, Bool.true_eq_false, ← decide_not, decide_eq_true_eq, tx_inj, tx_len, ne_eq, Classical.not_not, eq13, eq10, eq1310, eq0, List.cons.injEq, C8_G, C8_F, c2, i0, i1, f7_eq f d q hf]
noncomputable def R9 : QS := (.seq (.frz "parts" (.ret (.meth .join (.con (.str (Str.ofString ""))) (.var "parts")))) .nil)
noncomputable def H9 : QS := (.seq (.frz "written" (.app "parts" (.meth .join (.var "delimiter") (.var "written")))) (.seq (.app "parts" (.var "newline")) .nil))
noncomputable def G9 : QS := (.seq (.app "written" (.call "_format_checked" (.cons (.var "field") (.cons (.var "delimiter") (.cons (.var "quote") .nil))))) .nil)
noncomputable def F9 : QS := (.seq (.ite (.cmp .Eq (.len (.var "row")) (.con (.int 0))) (.seq .raise .nil) .nil) (.seq (.own "written" .nil) (.seq (.frn "field" (.var "row") G9) H9)))
noncomputable def B9 : QS := (.seq (.asg "checked" (.call "_check_dialect" (.cons (.var "dialect") .nil))) (.seq (.asg "delimiter" (.sub (.var "checked") (.con (.int 0)))) (.seq (.asg "quote" (.sub (.var "checked") (.con (.int 1)))) (.seq (.asg "newline" (.sub (.var "checked") (.con (.int 2)))) (.seq (.own "parts" .nil) (.seq (.frn "row" (.var "table") F9) R9))))))
noncomputable def C9 : PC := mkC [] [("_check_dialect", f2), ("_format_checked", f7)]
theorem C9_G : C9.G = look [] := rfl
theorem C9_F : C9.F = look [("_check_dialect", f2), ("_format_checked", f7)] := rfl
theorem C9_fuel : C9.fuel = LIM := rfl
noncomputable def f9 : List PyData → Out PyData := pcall C9 [Str.ofString "table", Str.ofString "dialect"] B9
structure Inv9 (d q : Nat) (nl : List Nat) (ρ : PE) (ps : List (List Nat)) : Prop where
  dl : ρ (Str.ofString "delimiter") = some (.dat (.str (tx [d])))
  qu : ρ (Str.ofString "quote") = some (.dat (.str (tx [q])))
  nl : ρ (Str.ofString "newline") = some (.dat (.str (tx nl)))
  parts : ρ (Str.ofString "parts") = some (.own (ps.map txd))
theorem inner9 {d q nl ps} : ∀ (r acc : List (List Nat)) (ρ : PE), Inv9 d q nl ρ ps → ρ (Str.ofString "written") = some (.own (acc.map txd)) → (∀ f ∈ r, f.length < 1000000) → acc.length + r.length < 10000000 →
    ∃ ρ', fr C9 ["field"] G9 (r.map txd) ρ = .ok (.next, ρ') ∧ Inv9 d q nl ρ' ps ∧ ρ' (Str.ofString "written") = some (.own ((acc ++ r.map (fmt d q)).map txd))
  | [], acc, ρ, I, h, _, _ => ⟨ρ, by simp [fr_nil], I, by simpa using h⟩
  | f :: r, acc, ρ, I, h, hf, hl => by
    have hL : LIM = 16777216 := rfl
    rw [List.length_cons] at hl
    have e1 : ((acc.map txd).length < LIM) = True := eq_true (by rw [List.length_map]; omega)
    have c7 := f7_eq f d q (hf f (List.mem_cons_self ..))
    obtain ⟨ρ', ih, I', k⟩ := inner9 (d := d) (q := q) (nl := nl) (ps := ps) r (acc ++ [fmt d q f]) (upd (upd ρ (Str.ofString "field") (.dat (.str (tx f)))) (Str.ofString "written") (.own (acc.map txd ++ [.str (tx (fmt d q f))])))
      (by constructor <;> simp -implicitDefEqProofs only [upd_eq, upd_ne, String.reduceEq, not_false_eq_true, none0_app, I.dl, I.qu, I.nl, I.parts]) (by simp -implicitDefEqProofs only [upd_eq, upd_ne, String.reduceEq, not_false_eq_true, none0_app, List.map_append, List.map_cons, List.map_nil, txd]) (fun g hg => hf g (List.mem_cons_of_mem _ hg))
      (by rw [List.length_append, List.length_cons, List.length_nil]; omega)
    refine ⟨ρ', ?_, I', by rw [k, List.map_cons, List.append_assoc]; rfl⟩
    rw [← ih, List.map_cons]
    unfold G9
    rw [fr_name]
    simp -implicitDefEqProofs only [↓reduceIte, ↓pex_seq, pex_nil, pex_ret, pex_cont, pex_asg, pex_own, pex_pop, pex_cop, pex_app, pex_raise, pex_try, pex_frz, pex_if, pex_while, pex_frn, pex_rng, fq_ok, fq_exc, fk_next, fk_cont, fk_ret, fk_exc, fk_ite, fr_nil, pev_con, pev_var, pev_tab, pev_bin, pev_neg, pev_not, pev_bo, pev_cmp, pev_ty, pev_tup, pev_lst, pev_sub, pev_cut, pev_meth, pev_replC, pev_replV, pev_replD, pev_call, pev_len, pev_lenO, pev_lis, pevs_nil, pevs_cons, peo_no, peo_opt, ptest_eq, pbo_or, pbo_and, pbo_one, piter_l, piter_t, piter_s, prange_i, pvar_dat, ptab_some, plenO_dat, plenO_own, pfn_some, pstrV_str, frz1_own, frz1_dat, papp_own, pcop_list, ptry_ok, ptry_exc, ptry_bad, seqk_next, seqk_brk, seqk_cont, seqk_ret, seqk_exc, seqk_bad, seqk_ite, ifk_true, ifk_false, ifk_dec, ifk_not, ifk_exc, ifk_bad, ifk_ite, fink_ret, fink_next, fink_exc, fink_bad, fink_ite, upd_eq, upd_ne, bindPE_nil, bindPE_cons, none0_app, look_hit, look_ne, ok_bind, exc_bind, bad_bind, ite_bind, pcmp_eq_s, pcmp_ne_s, pcmp_eq_i, pcmp_ne_i, pcmp_lt, pcmp_gt, pcmp_ge, pbin_add_s, pbin_add_i, pbin_add_l, pbin_sub, pbin_mod, pbin_fdiv, pbool_b, pint_i, pstr_s, plen_s, plen_l, plen_t, plist_l, ofS_inj, String.reduceEq, String.reduceNe, List.zip_cons_cons, List.zip_nil_left, List.map_cons, List.map_nil, List.nil_append, List.append_nil, List.cons_append, ite_true, ite_false, decide_false, decide_true, Bool.not_true, Bool.not_false, or_true, true_or, or_false, false_or, or_self, and_self, and_true, true_and, and_false, false_and, not_true_eq_false, not_false_eq_true, reduceCtorEq, Bool.false_eq_true, Bool.true_eq_false, ← decide_not, decide_eq_true_eq, tx_inj, tx_len, ne_eq, Classical.not_not, eq13, eq10, eq1310, eq0, List.cons.injEq, C9_G, C9_F, I.dl, I.qu, I.nl, I.parts, h, txd, c7, e1]
theorem mem_le_sum {a : Nat} : ∀ {l : List Nat}, a ∈ l → a ≤ l.sum
  | b :: l, h => by
    rw [List.sum_cons]
    rcases List.mem_cons.mp h with rfl | h
    · omega
    · have := mem_le_sum h; omega
theorem flat_pairs {α : Type} (x : α → List Nat) (nl : List Nat) (R : List α) : (R.flatMap fun r => [x r, nl]).flatten = R.flatMap fun r => x r ++ nl := by
  induction R with
  | nil => rfl
  | cons r R ih => simp [List.flatMap_cons, ih]
theorem outer9 {d q nl} (hnl : nl.length ≤ 2) : ∀ (R : Tab) (ps : List (List Nat)) (ρ : PE), Inv9 d q nl ρ ps → tsz R < 1000000 → ps.length + 2 * R.length < 1000000 →
    if R.any (fun r => decide (r = [])) = true then fr C9 ["row"] F9 (R.map rowd) ρ = .exc
    else ∃ ρ', fr C9 ["row"] F9 (R.map rowd) ρ = .ok (.next, ρ') ∧ Inv9 d q nl ρ' (ps ++ R.flatMap fun r => [fmtRow d q r, nl])
  | [], ps, ρ, I, _, _ => by
    rw [if_neg (by simp)]
    exact ⟨ρ, by simp [fr_nil], by simpa using I⟩
  | r :: R, ps, ρ, I, ht, hl => by
    have hL : LIM = 16777216 := rfl
    have ht' : tsz (r :: R) = (rsz r + 3) + tsz R := by simp [tsz]
    rw [List.length_cons] at hl
    by_cases hr : r = []
    · rw [if_pos (by simp [hr])]
      subst hr
      have e0 : (([] : List PyData).length ≤ LIM) = True := eq_true (Nat.zero_le _)
      have e1 : ((([] : List PyData).length : Int) = 0) = True := by simp
      rw [List.map_cons]
      unfold F9
      rw [fr_name]
      simp -implicitDefEqProofs only [↓reduceIte, ↓pex_seq, pex_nil, pex_ret, pex_cont, pex_asg, pex_own, pex_pop, pex_cop, pex_app, pex_raise, pex_try, pex_frz, pex_if, pex_while, pex_frn, pex_rng, fq_ok, fq_exc, fk_next, fk_cont, fk_ret, fk_exc, fk_ite, fr_nil, pev_con, pev_var, pev_tab, pev_bin, pev_neg, pev_not, pev_bo, pev_cmp, pev_ty, pev_tup, pev_lst, pev_sub, pev_cut, pev_meth, pev_replC, pev_replV, pev_replD, pev_call, pev_len, pev_lenO, pev_lis, pevs_nil, pevs_cons, peo_no, peo_opt, ptest_eq, pbo_or, pbo_and, pbo_one, piter_l, piter_t, piter_s, prange_i, pvar_dat, ptab_some, plenO_dat, plenO_own, pfn_some, pstrV_str, frz1_own, frz1_dat, papp_own, pcop_list, ptry_ok, ptry_exc, ptry_bad, seqk_next, seqk_brk, seqk_cont, seqk_ret, seqk_exc, seqk_bad, seqk_ite, ifk_true, ifk_false, ifk_dec, ifk_not, ifk_exc, ifk_bad, ifk_ite, fink_ret, fink_next, fink_exc, fink_bad, fink_ite, upd_eq, upd_ne, bindPE_nil, bindPE_cons, none0_app, look_hit, look_ne, ok_bind, exc_bind, bad_bind, ite_bind, pcmp_eq_s, pcmp_ne_s, pcmp_eq_i, pcmp_ne_i, pcmp_lt, pcmp_gt, pcmp_ge, pbin_add_s, pbin_add_i, pbin_add_l, pbin_sub, pbin_mod, pbin_fdiv, pbool_b, pint_i, pstr_s, plen_s, plen_l, plen_t, plist_l, ofS_inj, String.reduceEq, String.reduceNe, List.zip_cons_cons, List.zip_nil_left, List.map_cons, List.map_nil, List.nil_append, List.append_nil, List.cons_append, ite_true, ite_false, decide_false, decide_true, Bool.not_true, Bool.not_false, or_true, true_or, or_false, false_or, or_self, and_self, and_true, true_and, and_false, false_and, not_true_eq_false, not_false_eq_true, reduceCtorEq, Bool.false_eq_true, Bool.true_eq_false, ← decide_not, decide_eq_true_eq, tx_inj, tx_len, ne_eq, Classical.not_not, eq13, eq10, eq1310, eq0, List.cons.injEq, C9_G, C9_F, I.dl, I.qu, I.nl, I.parts, rowd, e0, e1]
    · have hlr : r.length ≤ rsz r := rsz_len r
      have e0 : ((r.map txd).length ≤ LIM) = True := eq_true (by rw [List.length_map]; omega)
      have e1 : (((r.map txd).length : Int) = 0) = False := by
        rw [List.length_map]
        have : 0 < r.length := List.length_pos_iff.mpr hr
        exact eq_false (by omega)
      have e2 : (([] : List PyData).length ≤ LIM) = True := eq_true (Nat.zero_le _)
      have hany : (r :: R).any (fun r => decide (r = [])) = R.any (fun r => decide (r = [])) := by simp [hr]
      have hfl : ∀ f ∈ r, f.length < 1000000 := by
        intro f hf
        have : 2 * f.length + 3 ≤ rsz r := by
          unfold rsz
          have h : 2 * f.length + 3 ∈ r.map fun f => 2 * f.length + 3 := List.mem_map.mpr ⟨f, hf, rfl⟩
          exact mem_le_sum h
        omega
      have K : ∀ ρ, Inv9 d q nl ρ ps → ρ (Str.ofString "written") = some (.own ([].map txd)) → ∃ ρ', seqk C9 H9 (fr C9 ["field"] G9 (r.map txd) ρ) = .ok (.next, ρ') ∧ Inv9 d q nl ρ' (ps ++ [fmtRow d q r, nl]) := by
        intro ρ I h
        obtain ⟨ρ', e, I', k⟩ := inner9 r [] ρ I h hfl (by simp; omega)
        rw [List.nil_append] at k
        have j1 : pmeth .join (tx [d]) (.list ((r.map (fmt d q)).map txd)) = .ok (.str (tx (fmtRow d q r))) := pmeth_join [d] (r.map (fmt d q)) (by have := rowfmt_sum d q r; omega)
        have g1 : ((ps.map txd).length < LIM) = True := eq_true (by rw [List.length_map]; omega)
        have g2 : ((ps.map txd ++ [PyData.str (tx (fmtRow d q r))]).length < LIM) = True := eq_true (by rw [List.length_append, List.length_map, List.length_cons, List.length_nil]; omega)
        rw [e, seqk_next]
        unfold H9
        simp -implicitDefEqProofs only [↓reduceIte, ↓pex_seq, pex_nil, pex_ret, pex_cont, pex_asg, pex_own, pex_pop, pex_cop, pex_app, pex_raise, pex_try, pex_frz, pex_if, pex_while, pex_frn, pex_rng, fq_ok, fq_exc, fk_next, fk_cont, fk_ret, fk_exc, fk_ite, fr_nil, pev_con, pev_var, pev_tab, pev_bin, pev_neg, pev_not, pev_bo, pev_cmp, pev_ty, pev_tup, pev_lst, pev_sub, pev_cut, pev_meth, pev_replC, pev_replV, pev_replD, pev_call, pev_len, pev_lenO, pev_lis, pevs_nil, pevs_cons, peo_no, peo_opt, ptest_eq, pbo_or, pbo_and, pbo_one, piter_l, piter_t, piter_s, prange_i, pvar_dat, ptab_some, plenO_dat, plenO_own, pfn_some, pstrV_str, frz1_own, frz1_dat, papp_own, pcop_list, ptry_ok, ptry_exc, ptry_bad, seqk_next, seqk_brk, seqk_cont, seqk_ret, seqk_exc, seqk_bad, seqk_ite, ifk_true, ifk_false, ifk_dec, ifk_not, ifk_exc, ifk_bad, ifk_ite, fink_ret, fink_next, fink_exc, fink_bad, fink_ite, upd_eq, upd_ne, bindPE_nil, bindPE_cons, none0_app, look_hit, look_ne, ok_bind, exc_bind, bad_bind, ite_bind, pcmp_eq_s, pcmp_ne_s, pcmp_eq_i, pcmp_ne_i, pcmp_lt, pcmp_gt, pcmp_ge, pbin_add_s, pbin_add_i, pbin_add_l, pbin_sub, pbin_mod, pbin_fdiv, pbool_b, pint_i, pstr_s, plen_s, plen_l, plen_t, plist_l, ofS_inj, String.reduceEq, String.reduceNe, List.zip_cons_cons, List.zip_nil_left, List.map_cons, List.map_nil, List.nil_append, List.append_nil, List.cons_append, ite_true, ite_false, decide_false, decide_true, Bool.not_true, Bool.not_false, or_true, true_or, or_false, false_or, or_self, and_self, and_true, true_and, and_false, false_and, not_true_eq_false, not_false_eq_true, reduceCtorEq, Bool.false_eq_true, Bool.true_eq_false, ← decide_not, decide_eq_true_eq, tx_inj, tx_len, ne_eq, Classical.not_not, eq13, eq10, eq1310, eq0, List.cons.injEq, C9_G, C9_F, I'.dl, I'.qu, I'.nl, I'.parts, k, j1, g1, g2]
        refine ⟨_, rfl, ?_⟩
        constructor <;> simp -implicitDefEqProofs only [upd_eq, upd_ne, String.reduceEq, not_false_eq_true, none0_app, I'.dl, I'.qu, I'.nl, I'.parts, List.map_append, List.map_cons, List.map_nil, txd, List.append_assoc, List.cons_append, List.nil_append]
      have body : ∃ ρ', pex C9 F9 (upd ρ (Str.ofString "row") (.dat (rowd r))) = .ok (.next, ρ') ∧ Inv9 d q nl ρ' (ps ++ [fmtRow d q r, nl]) := by
        unfold F9
        simp -implicitDefEqProofs only [↓reduceIte, ↓pex_seq, pex_nil, pex_ret, pex_cont, pex_asg, pex_own, pex_pop, pex_cop, pex_app, pex_raise, pex_try, pex_frz, pex_if, pex_while, pex_frn, pex_rng, fq_ok, fq_exc, fk_next, fk_cont, fk_ret, fk_exc, fk_ite, fr_nil, pev_con, pev_var, pev_tab, pev_bin, pev_neg, pev_not, pev_bo, pev_cmp, pev_ty, pev_tup, pev_lst, pev_sub, pev_cut, pev_meth, pev_replC, pev_replV, pev_replD, pev_call, pev_len, pev_lenO, pev_lis, pevs_nil, pevs_cons, peo_no, peo_opt, ptest_eq, pbo_or, pbo_and, pbo_one, piter_l, piter_t, piter_s, prange_i, pvar_dat, ptab_some, plenO_dat, plenO_own, pfn_some, pstrV_str, frz1_own, frz1_dat, papp_own, pcop_list, ptry_ok, ptry_exc, ptry_bad, seqk_next, seqk_brk, seqk_cont, seqk_ret, seqk_exc, seqk_bad, seqk_ite, ifk_true, ifk_false, ifk_dec, ifk_not, ifk_exc, ifk_bad, ifk_ite, fink_ret, fink_next, fink_exc, fink_bad, fink_ite, upd_eq, upd_ne, bindPE_nil, bindPE_cons, none0_app, look_hit, look_ne, ok_bind, exc_bind, bad_bind, ite_bind, pcmp_eq_s, pcmp_ne_s, pcmp_eq_i, pcmp_ne_i, pcmp_lt, pcmp_gt, pcmp_ge, pbin_add_s, pbin_add_i, pbin_add_l, pbin_sub, pbin_mod, pbin_fdiv, pbool_b, pint_i, pstr_s, plen_s, plen_l, plen_t, plist_l, ofS_inj, String.reduceEq, String.reduceNe, List.zip_cons_cons, List.zip_nil_left, List.map_cons, List.map_nil, List.nil_append, List.append_nil, List.cons_append, ite_true, ite_false, decide_false, decide_true, Bool.not_true, Bool.not_false, or_true, true_or, or_false, false_or, or_self, and_self, and_true, true_and, and_false, false_and, not_true_eq_false, not_false_eq_true, reduceCtorEq, Bool.false_eq_true, Bool.true_eq_false, ← decide_not, decide_eq_true_eq, tx_inj, tx_len, ne_eq, Classical.not_not, eq13, eq10, eq1310, eq0, List.cons.injEq, C9_G, C9_F, I.dl, I.qu, I.nl, I.parts, rowd, e0, e1, e2]
        refine K _ ?_ ?_
        · constructor <;> simp -implicitDefEqProofs only [upd_eq, upd_ne, String.reduceEq, not_false_eq_true, none0_app, I.dl, I.qu, I.nl, I.parts]
        · simp -implicitDefEqProofs only [upd_eq, upd_ne, String.reduceEq, not_false_eq_true, none0_app, List.map_nil]
      obtain ⟨ρ', e, I'⟩ := body
      have ih := outer9 hnl R (ps ++ [fmtRow d q r, nl]) ρ' I' (by omega) (by simp; omega)
      have ef : fr C9 ["row"] F9 ((r :: R).map rowd) ρ = fr C9 ["row"] F9 (R.map rowd) ρ' := by
        rw [List.map_cons]
        show fk C9 ["row"] F9 (R.map rowd) (pex C9 F9 (upd ρ (Str.ofString "row") (.dat (rowd r)))) = _
        rw [e, fk_next]
      rw [hany, ef]
      split at ih
      · rename_i h; rw [if_pos h]; exact ih
      · rename_i h
        rw [if_neg h]
        obtain ⟨ρ2, h1, h2⟩ := ih
        exact ⟨ρ2, h1, by simpa using h2⟩
theorem f9_bad {x D : PyData} (h : f2 [D] = .exc) : f9 [x, D] = .exc := by
  unfold f9 B9
  rw [pcall_fin _ _ _ _ rfl]
  simp -implicitDefEqProofs only [↓reduceIte, ↓pex_seq, pex_nil, pex_ret, pex_cont, pex_asg, pex_own, pex_pop, pex_cop, pex_app, pex_raise, pex_try, pex_frz, pex_if, pex_while, pex_frn, pex_rng, fq_ok, fq_exc, fk_next, fk_cont, fk_ret, fk_exc, fk_ite, fr_nil, pev_con, pev_var, pev_tab, pev_bin, pev_neg, pev_not, pev_bo, pev_cmp, pev_ty, pev_tup, pev_lst, pev_sub, pev_cut, pev_meth, pev_replC, pev_replV, pev_replD, pev_call, pev_len, pev_lenO, pev_lis, pevs_nil, pevs_cons, peo_no, peo_opt, ptest_eq, pbo_or, pbo_and, pbo_one, piter_l, piter_t, piter_s, prange_i, pvar_dat, ptab_some, plenO_dat, plenO_own, pfn_some, pstrV_str, frz1_own, frz1_dat, papp_own, pcop_list, ptry_ok, ptry_exc, ptry_bad, seqk_next, seqk_brk, seqk_cont, seqk_ret, seqk_exc, seqk_bad, seqk_ite, ifk_true, ifk_false, ifk_dec, ifk_not, ifk_exc, ifk_bad, ifk_ite, fink_ret, fink_next, fink_exc, fink_bad, fink_ite, upd_eq, upd_ne, bindPE_nil, bindPE_cons, none0_app, look_hit, look_ne, ok_bind, exc_bind, bad_bind, ite_bind, pcmp_eq_s, pcmp_ne_s, pcmp_eq_i, pcmp_ne_i, pcmp_lt, pcmp_gt, pcmp_ge, pbin_add_s, pbin_add_i, pbin_add_l, pbin_sub, pbin_mod, pbin_fdiv, pbool_b, pint_i, pstr_s, plen_s, plen_l, plen_t, plist_l, ofS_inj, String.reduceEq, String.reduceNe, List.zip_cons_cons, List.zip_nil_left, List.map_cons, List.map_nil, List.nil_append, List.append_nil, List.cons_append, ite_true, ite_false, decide_false, decide_true, Bool.not_true, Bool.not_false, or_true, true_or, or_false, false_or, or_self, and_self, and_true, true_and, and_false, false_and, not_true_eq_false, not_false_eq_true, reduceCtorEq, Bool.false_eq_true, Bool.true_eq_false, ← decide_not, decide_eq_true_eq, tx_inj, tx_len, ne_eq, Classical.not_not, eq13, eq10, eq1310, eq0, List.cons.injEq, C9_G, C9_F, h]
theorem parts_sum (d q : Nat) (nl : List Nat) (hnl : nl.length ≤ 2) (R : Tab) : ((R.flatMap fun r => [fmtRow d q r, nl]).map List.length).sum ≤ tsz R := by
  unfold tsz
  induction R with
  | nil => simp
  | cons r R ih =>
    simp only [List.flatMap_cons, List.map_append, List.map_cons, List.map_nil, List.sum_append, List.sum_cons, List.sum_nil]
    have := fmtRow_len d q r
    omega
theorem f9_eq (R : Tab) (d q : Nat) (nl : List Nat) (hR : tsz R < 1000000) (ok : okDia [[d], [q], nl] = true) (hnl : nl.length ≤ 2) :
    f9 [tabd R, .tuple [.str (tx [d]), .str (tx [q]), .str (tx nl)]] = match fmtTab d q nl R with | none => .exc | some t => .ok (.str (tx t)) := by
  have hL : LIM = 16777216 := rfl
  have c2 : f2 [.tuple [.str (tx [d]), .str (tx [q]), .str (tx nl)]] = .ok (.tuple [.str (tx [d]), .str (tx [q]), .str (tx nl)]) := by
    rw [f2_eq _ _ _ (by simp [LIM]) (by simp [LIM]), if_pos ok]
  have hRl := tsz_len R
  have K : ∀ ρ, Inv9 d q nl ρ [] → fink (seqk C9 R9 (fr C9 ["row"] F9 (R.map rowd) ρ)) = match fmtTab d q nl R with | none => .exc | some t => .ok (.str (tx t)) := by
    intro ρ I
    have o := outer9 hnl R [] ρ I hR (by simp; omega)
    unfold fmtTab
    split at o
    · rename_i h; rw [if_pos h, o]; rfl
    · rename_i h
      rw [if_neg h]
      obtain ⟨ρ', e, I'⟩ := o
      rw [e, seqk_next]
      rw [List.nil_append] at I'
      have j1 : pmeth .join (Str.ofString "") (.list ((R.flatMap fun r => [fmtRow d q r, nl]).map txd)) = .ok (.str (tx (R.flatMap fun r => fmtRow d q r ++ nl))) := by
        rw [s0, pmeth_join [] _ (by have := parts_sum d q nl hnl R; simp only [List.length_nil, Nat.mul_zero]; omega), joinL_nil]
        rw [flat_pairs]; rfl
      unfold R9
      simp -implicitDefEqProofs only [↓reduceIte, ↓pex_seq, pex_nil, pex_ret, pex_cont, pex_asg, pex_own, pex_pop, pex_cop, pex_app, pex_raise, pex_try, pex_frz, pex_if, pex_while, pex_frn, pex_rng, fq_ok, fq_exc, fk_next, fk_cont, fk_ret, fk_exc, fk_ite, fr_nil, pev_con, pev_var, pev_tab, pev_bin, pev_neg, pev_not, pev_bo, pev_cmp, pev_ty, pev_tup, pev_lst, pev_sub, pev_cut, pev_meth, pev_replC, pev_replV, pev_replD, pev_call, pev_len, pev_lenO, pev_lis, pevs_nil, pevs_cons, peo_no, peo_opt, ptest_eq, pbo_or, pbo_and, pbo_one, piter_l, piter_t, piter_s, prange_i, pvar_dat, ptab_some, plenO_dat, plenO_own, pfn_some, pstrV_str, frz1_own, frz1_dat, papp_own, pcop_list, ptry_ok, ptry_exc, ptry_bad, seqk_next, seqk_brk, seqk_cont, seqk_ret, seqk_exc, seqk_bad, seqk_ite, ifk_true, ifk_false, ifk_dec, ifk_not, ifk_exc, ifk_bad, ifk_ite, fink_ret, fink_next, fink_exc, fink_bad, fink_ite, upd_eq, upd_ne, bindPE_nil, bindPE_cons, none0_app, look_hit, look_ne, ok_bind, exc_bind, bad_bind, ite_bind, pcmp_eq_s, pcmp_ne_s, pcmp_eq_i, pcmp_ne_i, pcmp_lt, pcmp_gt, pcmp_ge, pbin_add_s, pbin_add_i, pbin_add_l, pbin_sub, pbin_mod, pbin_fdiv, pbool_b, pint_i, pstr_s, plen_s, plen_l, plen_t, plist_l, ofS_inj, String.reduceEq, String.reduceNe, List.zip_cons_cons, List.zip_nil_left, List.map_cons, List.map_nil, List.nil_append, List.append_nil, List.cons_append, ite_true, ite_false, decide_false, decide_true, Bool.not_true, Bool.not_false, or_true, true_or, or_false, false_or, or_self, and_self, and_true, true_and, and_false, false_and, not_true_eq_false, not_false_eq_true, reduceCtorEq, Bool.false_eq_true, Bool.true_eq_false, ← decide_not, decide_eq_true_eq, tx_inj, tx_len, ne_eq, Classical.not_not, eq13, eq10, eq1310, eq0, List.cons.injEq, C9_G, C9_F, I'.dl, I'.qu, I'.nl, I'.parts, j1]
  have i0 : pitem (.tuple [.str (tx [d]), .str (tx [q]), .str (tx nl)]) 0 = .ok (.str (tx [d])) := pitem_tuple _ 0 _ rfl (by decide)
  have i1 : pitem (.tuple [.str (tx [d]), .str (tx [q]), .str (tx nl)]) 1 = .ok (.str (tx [q])) := pitem_tuple _ 1 _ rfl (by decide)
  have i2 : pitem (.tuple [.str (tx [d]), .str (tx [q]), .str (tx nl)]) 2 = .ok (.str (tx nl)) := pitem_tuple _ 2 _ rfl (by decide)
  have e2 : (([] : List PyData).length ≤ LIM) = True := eq_true (Nat.zero_le _)
  unfold f9 B9
  rw [pcall_fin _ _ _ _ rfl]
  simp -implicitDefEqProofs only [↓reduceIte, ↓pex_seq, pex_nil, pex_ret, pex_cont, pex_asg, pex_own, pex_pop, pex_cop, pex_app, pex_raise, pex_try, pex_frz, pex_if, pex_while, pex_frn, pex_rng, fq_ok, fq_exc, fk_next, fk_cont, fk_ret, fk_exc, fk_ite, fr_nil, pev_con, pev_var, pev_tab, pev_bin, pev_neg, pev_not, pev_bo, pev_cmp, pev_ty, pev_tup, pev_lst, pev_sub, pev_cut, pev_meth, pev_replC, pev_replV, pev_replD, pev_call, pev_len, pev_lenO, pev_lis, pevs_nil, pevs_cons, peo_no, peo_opt, ptest_eq, pbo_or, pbo_and, pbo_one, piter_l, piter_t, piter_s, prange_i, pvar_dat, ptab_some, plenO_dat, plenO_own, pfn_some, pstrV_str, frz1_own, frz1_dat, papp_own, pcop_list, ptry_ok, ptry_exc, ptry_bad, seqk_next, seqk_brk, seqk_cont, seqk_ret, seqk_exc, seqk_bad, seqk_ite, ifk_true, ifk_false, ifk_dec, ifk_not, ifk_exc, ifk_bad, ifk_ite, fink_ret, fink_next, fink_exc, fink_bad, fink_ite, upd_eq, upd_ne, bindPE_nil, bindPE_cons, none0_app, look_hit, look_ne, ok_bind, exc_bind, bad_bind, ite_bind, pcmp_eq_s, pcmp_ne_s, pcmp_eq_i, pcmp_ne_i, pcmp_lt, pcmp_gt, pcmp_ge, pbin_add_s, pbin_add_i, pbin_add_l, pbin_sub, pbin_mod, pbin_fdiv, pbool_b, pint_i, pstr_s, plen_s, plen_l, plen_t, plist_l, ofS_inj, String.reduceEq, String.reduceNe, List.zip_cons_cons, List.zip_nil_left, List.map_cons, List.map_nil, List.nil_append, List.append_nil, List.cons_append, ite_true, ite_false, decide_false, decide_true, Bool.not_true, Bool.not_false, or_true, true_or, or_false, false_or, or_self, and_self, and_true, true_and, and_false, false_and, not_true_eq_false, not_false_eq_true, reduceCtorEq, Bool.false_eq_true, Bool.true_eq_false, ← decide_not, decide_eq_true_eq, tx_inj, tx_len, ne_eq, Classical.not_not, eq13, eq10, eq1310, eq0, List.cons.injEq, C9_G, C9_F, c2, i0, i1, i2, e2, tabd]
  refine K _ ⟨?_, ?_, ?_, ?_⟩ <;> simp -implicitDefEqProofs only [upd_eq, upd_ne, String.reduceEq, not_false_eq_true, none0_app, List.map_nil]
end Mine

open PySem
set_option maxRecDepth 100000
set_option maxHeartbeats 4000000
set_option linter.unusedSimpArgs false
namespace Mine

theorem two_le (a b : PyData) : (([a, b] : List PyData).length ≤ LIM) = True := eq_true (by show 2 ≤ LIM; decide)
theorem one_le (a : PyData) : (([a] : List PyData).length ≤ LIM) = True := eq_true (by show 1 ≤ LIM; decide)
theorem nil_le : (([] : List PyData).length ≤ LIM) = True := eq_true (Nat.zero_le _)
theorem pcmp_in (c : Nat) (l : List Nat) : pcmp .In (.str (tx [c])) (.str (tx l)) = .ok (.bool (decide (c ∈ l))) := by
  have := StrLaws.found_one (tx l) c
  unfold pcmp
  dsimp only
  rw [this]
theorem sx : Str.ofString "x" = tx [120] := by rw [Str.ofString_eq_toList]; rfl
noncomputable def D3 (d q : Nat) (nl : List Nat) : PyData := .tuple [.str (tx [d]), .str (tx [q]), .str (tx nl)]
theorem d3_0 (d q : Nat) (nl : List Nat) : pitem (D3 d q nl) 0 = .ok (.str (tx [d])) := pitem_tuple _ 0 _ rfl (by decide)
theorem d3_1 (d q : Nat) (nl : List Nat) : pitem (D3 d q nl) 1 = .ok (.str (tx [q])) := pitem_tuple _ 1 _ rfl (by decide)
theorem d3_2 (d q : Nat) (nl : List Nat) : pitem (D3 d q nl) 2 = .ok (.str (tx nl)) := pitem_tuple _ 2 _ rfl (by decide)
theorem needs_iff (d q : Nat) (f : List Nat) : needs d q f = [d, q, 13, 10].any fun c => decide (c ∈ f) := by
  unfold needs
  rw [Bool.eq_iff_iff, List.any_eq_true, List.any_eq_true]
  constructor
  · rintro ⟨c, hc, h⟩
    have : c = d ∨ c = q ∨ c = 13 ∨ c = 10 := by simpa [special] using h
    exact ⟨c, by simpa using this, decide_eq_true hc⟩
  · rintro ⟨c, hc, h⟩
    exact ⟨c, of_decide_eq_true h, by simpa [special] using hc⟩
noncomputable def B20 : QS := (.seq (.asg "refused" (.con (.bool false))) (.seq (.asg "got" (.con .none)) (.seq (.trye "got" (.call "parse_table" (.cons (.var "text") (.cons (.var "dialect") .nil))) "refused" (.bool true)) (.seq (.ret (.tup (.cons (.var "refused") (.cons (.var "got") .nil)))) .nil))))
noncomputable def C20 : PC := mkC [] [("parse_table", f4)]
theorem C20_G : C20.G = look [] := rfl
theorem C20_F : C20.F = look [("parse_table", f4)] := rfl
theorem C20_fuel : C20.fuel = LIM := rfl
noncomputable def f20 : List PyData → Out PyData := pcall C20 [Str.ofString "text", Str.ofString "dialect"] B20
theorem f20_eq (x y : PyData) : f20 [x, y] = match f4 [x, y] with | .ok d => .ok (.tuple [.bool false, d]) | .exc => .ok (.tuple [.bool true, .none]) | .bad => .bad := by
  unfold f20 B20
  rw [pcall_fin _ _ _ _ rfl]
  cases h : f4 [x, y] <;> simp -implicitDefEqProofs only [↓reduceIte, ↓pex_seq, pex_nil, pex_ret, pex_cont, pex_asg, pex_own, pex_pop, pex_cop, pex_app, pex_raise, pex_try, pex_frz, pex_if, pex_while, pex_frn, pex_rng, fq_ok, fq_exc, fk_next, fk_cont, fk_ret, fk_exc, fk_ite, fr_nil, pev_con, pev_var, pev_tab, pev_bin, pev_neg, pev_not, pev_bo, pev_cmp, pev_ty, pev_tup, pev_lst, pev_sub, pev_cut, pev_meth, pev_replC, pev_replV, pev_replD, pev_call, pev_len, pev_lenO, pev_lis, pevs_nil, pevs_cons, peo_no, peo_opt, ptest_eq, pbo_or, pbo_and, pbo_one, piter_l, piter_t, piter_s, prange_i, pvar_dat, ptab_some, plenO_dat, plenO_own, pfn_some, pstrV_str, frz1_own, frz1_dat, papp_own, pcop_list, ptry_ok, ptry_exc, ptry_bad, seqk_next, seqk_brk, seqk_cont, seqk_ret, seqk_exc, seqk_bad, seqk_ite, ifk_true, ifk_false, ifk_dec, ifk_not, ifk_exc, ifk_bad, ifk_ite, fink_ret, fink_next, fink_exc, fink_bad, fink_ite, upd_eq, upd_ne, bindPE_nil, bindPE_cons, none0_app, look_hit, look_ne, ok_bind, exc_bind, bad_bind, ite_bind, pcmp_eq_s, pcmp_ne_s, pcmp_eq_i, pcmp_ne_i, pcmp_lt, pcmp_gt, pcmp_ge, pbin_add_s, pbin_add_i, pbin_add_l, pbin_sub, pbin_mod, pbin_fdiv, pbool_b, pint_i, pstr_s, plen_s, plen_l, plen_t, plist_l, ofS_inj, String.reduceEq, String.reduceNe, List.zip_cons_cons, List.zip_nil_left, List.map_cons, List.map_nil, List.nil_append, List.append_nil, List.cons_append, ite_true, ite_false, decide_false, decide_true, Bool.not_true, Bool.not_false, or_true, true_or, or_false, false_or, or_self, and_self, and_true, true_and, and_false, false_and, not_true_eq_false, not_false_eq_true, reduceCtorEq, Bool.false_eq_true, Bool.true_eq_false, ← decide_not, decide_eq_true_eq, tx_inj, tx_len, ne_eq, Classical.not_not, eq13, eq10, eq1310, eq0, List.cons.injEq, C20_G, C20_F, h, two_le]
noncomputable def B21 : QS := (.seq (.asg "refused" (.con (.bool false))) (.seq (.asg "got" (.con .none)) (.seq (.trye "got" (.call "format_table" (.cons (.var "table") (.cons (.var "dialect") .nil))) "refused" (.bool true)) (.seq (.ret (.tup (.cons (.var "refused") (.cons (.var "got") .nil)))) .nil))))
noncomputable def C21 : PC := mkC [] [("format_table", f9)]
theorem C21_G : C21.G = look [] := rfl
theorem C21_F : C21.F = look [("format_table", f9)] := rfl
theorem C21_fuel : C21.fuel = LIM := rfl
noncomputable def f21 : List PyData → Out PyData := pcall C21 [Str.ofString "table", Str.ofString "dialect"] B21
theorem f21_eq (x y : PyData) : f21 [x, y] = match f9 [x, y] with | .ok d => .ok (.tuple [.bool false, d]) | .exc => .ok (.tuple [.bool true, .none]) | .bad => .bad := by
  unfold f21 B21
  rw [pcall_fin _ _ _ _ rfl]
  cases h : f9 [x, y] <;> simp -implicitDefEqProofs only [↓reduceIte, ↓pex_seq, pex_nil, pex_ret, pex_cont, pex_asg, pex_own, pex_pop, pex_cop, pex_app, pex_raise, pex_try, pex_frz, pex_if, pex_while, pex_frn, pex_rng, fq_ok, fq_exc, fk_next, fk_cont, fk_ret, fk_exc, fk_ite, fr_nil, pev_con, pev_var, pev_tab, pev_bin, pev_neg, pev_not, pev_bo, pev_cmp, pev_ty, pev_tup, pev_lst, pev_sub, pev_cut, pev_meth, pev_replC, pev_replV, pev_replD, pev_call, pev_len, pev_lenO, pev_lis, pevs_nil, pevs_cons, peo_no, peo_opt, ptest_eq, pbo_or, pbo_and, pbo_one, piter_l, piter_t, piter_s, prange_i, pvar_dat, ptab_some, plenO_dat, plenO_own, pfn_some, pstrV_str, frz1_own, frz1_dat, papp_own, pcop_list, ptry_ok, ptry_exc, ptry_bad, seqk_next, seqk_brk, seqk_cont, seqk_ret, seqk_exc, seqk_bad, seqk_ite, ifk_true, ifk_false, ifk_dec, ifk_not, ifk_exc, ifk_bad, ifk_ite, fink_ret, fink_next, fink_exc, fink_bad, fink_ite, upd_eq, upd_ne, bindPE_nil, bindPE_cons, none0_app, look_hit, look_ne, ok_bind, exc_bind, bad_bind, ite_bind, pcmp_eq_s, pcmp_ne_s, pcmp_eq_i, pcmp_ne_i, pcmp_lt, pcmp_gt, pcmp_ge, pbin_add_s, pbin_add_i, pbin_add_l, pbin_sub, pbin_mod, pbin_fdiv, pbool_b, pint_i, pstr_s, plen_s, plen_l, plen_t, plist_l, ofS_inj, String.reduceEq, String.reduceNe, List.zip_cons_cons, List.zip_nil_left, List.map_cons, List.map_nil, List.nil_append, List.append_nil, List.cons_append, ite_true, ite_false, decide_false, decide_true, Bool.not_true, Bool.not_false, or_true, true_or, or_false, false_or, or_self, and_self, and_true, true_and, and_false, false_and, not_true_eq_false, not_false_eq_true, reduceCtorEq, Bool.false_eq_true, Bool.true_eq_false, ← decide_not, decide_eq_true_eq, tx_inj, tx_len, ne_eq, Classical.not_not, eq13, eq10, eq1310, eq0, List.cons.injEq, C21_G, C21_F, h, two_le]
noncomputable def B22 : QS := (.seq (.asg "refused" (.con (.bool false))) (.seq (.asg "got" (.con .none)) (.seq (.trye "got" (.call "format_field" (.cons (.var "field") (.cons (.var "dialect") .nil))) "refused" (.bool true)) (.seq (.ret (.tup (.cons (.var "refused") (.cons (.var "got") .nil)))) .nil))))
noncomputable def C22 : PC := mkC [] [("format_field", f8)]
theorem C22_G : C22.G = look [] := rfl
theorem C22_F : C22.F = look [("format_field", f8)] := rfl
theorem C22_fuel : C22.fuel = LIM := rfl
noncomputable def f22 : List PyData → Out PyData := pcall C22 [Str.ofString "field", Str.ofString "dialect"] B22
theorem f22_eq (x y : PyData) : f22 [x, y] = match f8 [x, y] with | .ok d => .ok (.tuple [.bool false, d]) | .exc => .ok (.tuple [.bool true, .none]) | .bad => .bad := by
  unfold f22 B22
  rw [pcall_fin _ _ _ _ rfl]
  cases h : f8 [x, y] <;> simp -implicitDefEqProofs only [↓reduceIte, ↓pex_seq, pex_nil, pex_ret, pex_cont, pex_asg, pex_own, pex_pop, pex_cop, pex_app, pex_raise, pex_try, pex_frz, pex_if, pex_while, pex_frn, pex_rng, fq_ok, fq_exc, fk_next, fk_cont, fk_ret, fk_exc, fk_ite, fr_nil, pev_con, pev_var, pev_tab, pev_bin, pev_neg, pev_not, pev_bo, pev_cmp, pev_ty, pev_tup, pev_lst, pev_sub, pev_cut, pev_meth, pev_replC, pev_replV, pev_replD, pev_call, pev_len, pev_lenO, pev_lis, pevs_nil, pevs_cons, peo_no, peo_opt, ptest_eq, pbo_or, pbo_and, pbo_one, piter_l, piter_t, piter_s, prange_i, pvar_dat, ptab_some, plenO_dat, plenO_own, pfn_some, pstrV_str, frz1_own, frz1_dat, papp_own, pcop_list, ptry_ok, ptry_exc, ptry_bad, seqk_next, seqk_brk, seqk_cont, seqk_ret, seqk_exc, seqk_bad, seqk_ite, ifk_true, ifk_false, ifk_dec, ifk_not, ifk_exc, ifk_bad, ifk_ite, fink_ret, fink_next, fink_exc, fink_bad, fink_ite, upd_eq, upd_ne, bindPE_nil, bindPE_cons, none0_app, look_hit, look_ne, ok_bind, exc_bind, bad_bind, ite_bind, pcmp_eq_s, pcmp_ne_s, pcmp_eq_i, pcmp_ne_i, pcmp_lt, pcmp_gt, pcmp_ge, pbin_add_s, pbin_add_i, pbin_add_l, pbin_sub, pbin_mod, pbin_fdiv, pbool_b, pint_i, pstr_s, plen_s, plen_l, plen_t, plist_l, ofS_inj, String.reduceEq, String.reduceNe, List.zip_cons_cons, List.zip_nil_left, List.map_cons, List.map_nil, List.nil_append, List.append_nil, List.cons_append, ite_true, ite_false, decide_false, decide_true, Bool.not_true, Bool.not_false, or_true, true_or, or_false, false_or, or_self, and_self, and_true, true_and, and_false, false_and, not_true_eq_false, not_false_eq_true, reduceCtorEq, Bool.false_eq_true, Bool.true_eq_false, ← decide_not, decide_eq_true_eq, tx_inj, tx_len, ne_eq, Classical.not_not, eq13, eq10, eq1310, eq0, List.cons.injEq, C22_G, C22_F, h, two_le]
noncomputable def R16 : QS := (.seq (.ret (.con (.bool false))) .nil)
noncomputable def F16 : QS := (.seq (.ite (.cmp .In (.var "c") (.var "field")) (.seq (.ret (.con (.bool true))) .nil) .nil) .nil)
noncomputable def B16 : QS := (.seq (.frn "c" (.bin .Add (.bin .Add (.sub (.var "dialect") (.con (.int 0))) (.sub (.var "dialect") (.con (.int 1)))) (.con (.str (Str.ofString "\r\n")))) F16) R16)
noncomputable def C16 : PC := mkC [] []
theorem C16_G : C16.G = look [] := rfl
theorem C16_F : C16.F = look [] := rfl
theorem C16_fuel : C16.fuel = LIM := rfl
noncomputable def f16 : List PyData → Out PyData := pcall C16 [Str.ofString "field", Str.ofString "dialect"] B16
theorem loop16 {f : List Nat} : ∀ (cs : List Nat) (ρ : PE), ρ (Str.ofString "field") = some (.dat (.str (tx f))) → ∃ ρ', fr C16 ["c"] F16 (cs.map ch) ρ = .ok (if (cs.any fun c => decide (c ∈ f)) = true then .ret (.bool true) else .next, ρ')
  | [], ρ, _ => ⟨ρ, rfl⟩
  | c :: cs, ρ, h => by
    rw [List.map_cons, fr_name, List.any_cons]
    unfold F16
    by_cases g : c ∈ f
    · exact ⟨upd ρ (Str.ofString "c") (.dat (.str (tx [c]))), by simp -implicitDefEqProofs only [↓reduceIte, ↓pex_seq, pex_nil, pex_ret, pex_cont, pex_asg, pex_own, pex_pop, pex_cop, pex_app, pex_raise, pex_try, pex_frz, pex_if, pex_while, pex_frn, pex_rng, fq_ok, fq_exc, fk_next, fk_cont, fk_ret, fk_exc, fk_ite, fr_nil, pev_con, pev_var, pev_tab, pev_bin, pev_neg, pev_not, pev_bo, pev_cmp, pev_ty, pev_tup, pev_lst, pev_sub, pev_cut, pev_meth, pev_replC, pev_replV, pev_replD, pev_call, pev_len, pev_lenO, pev_lis, pevs_nil, pevs_cons, peo_no, peo_opt, ptest_eq, pbo_or, pbo_and, pbo_one, piter_l, piter_t, piter_s, prange_i, pvar_dat, ptab_some, plenO_dat, plenO_own, pfn_some, pstrV_str, frz1_own, frz1_dat, papp_own, pcop_list, ptry_ok, ptry_exc, ptry_bad, seqk_next, seqk_brk, seqk_cont, seqk_ret, seqk_exc, seqk_bad, seqk_ite, ifk_true, ifk_false, ifk_dec, ifk_not, ifk_exc, ifk_bad, ifk_ite, fink_ret, fink_next, fink_exc, fink_bad, fink_ite, upd_eq, upd_ne, bindPE_nil, bindPE_cons, none0_app, look_hit, look_ne, ok_bind, exc_bind, bad_bind, ite_bind, pcmp_eq_s, pcmp_ne_s, pcmp_eq_i, pcmp_ne_i, pcmp_lt, pcmp_gt, pcmp_ge, pbin_add_s, pbin_add_i, pbin_add_l, pbin_sub, pbin_mod, pbin_fdiv, pbool_b, pint_i, pstr_s, plen_s, plen_l, plen_t, plist_l, ofS_inj, String.reduceEq, String.reduceNe, List.zip_cons_cons, List.zip_nil_left, List.map_cons, List.map_nil, List.nil_append, List.append_nil, List.cons_append, ite_true, ite_false, decide_false, decide_true, Bool.not_true, Bool.not_false, or_true, true_or, or_false, false_or, or_self, and_self, and_true, true_and, and_false, false_and, not_true_eq_false, not_false_eq_true, reduceCtorEq, Bool.false_eq_true, Bool.true_eq_false, ← decide_not, decide_eq_true_eq, tx_inj, tx_len, ne_eq, Classical.not_not, eq13, eq10, eq1310, eq0, List.cons.injEq, C16_G, C16_F, h, ch, pcmp_in, g, Bool.true_or]⟩
    · obtain ⟨ρ', ih⟩ := loop16 (f := f) cs (upd ρ (Str.ofString "c") (.dat (ch c))) (by simp -implicitDefEqProofs only [upd_eq, upd_ne, String.reduceEq, not_false_eq_true, none0_app, h])
      refine ⟨ρ', ?_⟩
      rw [decide_eq_false g, Bool.false_or, ← ih]
      simp -implicitDefEqProofs only [↓reduceIte, ↓pex_seq, pex_nil, pex_ret, pex_cont, pex_asg, pex_own, pex_pop, pex_cop, pex_app, pex_raise, pex_try, pex_frz, pex_if, pex_while, pex_frn, pex_rng, fq_ok, fq_exc, fk_next, fk_cont, fk_ret, fk_exc, fk_ite, fr_nil, pev_con, pev_var, pev_tab, pev_bin, pev_neg, pev_not, pev_bo, pev_cmp, pev_ty, pev_tup, pev_lst, pev_sub, pev_cut, pev_meth, pev_replC, pev_replV, pev_replD, pev_call, pev_len, pev_lenO, pev_lis, pevs_nil, pevs_cons, peo_no, peo_opt, ptest_eq, pbo_or, pbo_and, pbo_one, piter_l, piter_t, piter_s, prange_i, pvar_dat, ptab_some, plenO_dat, plenO_own, pfn_some, pstrV_str, frz1_own, frz1_dat, papp_own, pcop_list, ptry_ok, ptry_exc, ptry_bad, seqk_next, seqk_brk, seqk_cont, seqk_ret, seqk_exc, seqk_bad, seqk_ite, ifk_true, ifk_false, ifk_dec, ifk_not, ifk_exc, ifk_bad, ifk_ite, fink_ret, fink_next, fink_exc, fink_bad, fink_ite, upd_eq, upd_ne, bindPE_nil, bindPE_cons, none0_app, look_hit, look_ne, ok_bind, exc_bind, bad_bind, ite_bind, pcmp_eq_s, pcmp_ne_s, pcmp_eq_i, pcmp_ne_i, pcmp_lt, pcmp_gt, pcmp_ge, pbin_add_s, pbin_add_i, pbin_add_l, pbin_sub, pbin_mod, pbin_fdiv, pbool_b, pint_i, pstr_s, plen_s, plen_l, plen_t, plist_l, ofS_inj, String.reduceEq, String.reduceNe, List.zip_cons_cons, List.zip_nil_left, List.map_cons, List.map_nil, List.nil_append, List.append_nil, List.cons_append, ite_true, ite_false, decide_false, decide_true, Bool.not_true, Bool.not_false, or_true, true_or, or_false, false_or, or_self, and_self, and_true, true_and, and_false, false_and, not_true_eq_false, not_false_eq_true, reduceCtorEq, Bool.false_eq_true, Bool.true_eq_false, ← decide_not, decide_eq_true_eq, tx_inj, tx_len, ne_eq, Classical.not_not, eq13, eq10, eq1310, eq0, List.cons.injEq, C16_G, C16_F, h, ch, pcmp_in, g]
      rfl
theorem f16_eq (f : List Nat) (d q : Nat) (nl : List Nat) : f16 [.str (tx f), D3 d q nl] = .ok (.bool (needs d q f)) := by
  have K : ∀ ρ, ρ (Str.ofString "field") = some (.dat (.str (tx f))) → fink (seqk C16 R16 (fr C16 ["c"] F16 ([d, q, 13, 10].map ch) ρ)) = .ok (.bool (needs d q f)) := by
    intro ρ h
    obtain ⟨ρ', e⟩ := loop16 [d, q, 13, 10] ρ h
    rw [e, needs_iff]
    cases [d, q, 13, 10].any fun c => decide (c ∈ f) with
    | true => rfl
    | false =>
      rw [if_neg (by decide), seqk_next]
      unfold R16
      simp -implicitDefEqProofs only [↓reduceIte, ↓pex_seq, pex_nil, pex_ret, pex_cont, pex_asg, pex_own, pex_pop, pex_cop, pex_app, pex_raise, pex_try, pex_frz, pex_if, pex_while, pex_frn, pex_rng, fq_ok, fq_exc, fk_next, fk_cont, fk_ret, fk_exc, fk_ite, fr_nil, pev_con, pev_var, pev_tab, pev_bin, pev_neg, pev_not, pev_bo, pev_cmp, pev_ty, pev_tup, pev_lst, pev_sub, pev_cut, pev_meth, pev_replC, pev_replV, pev_replD, pev_call, pev_len, pev_lenO, pev_lis, pevs_nil, pevs_cons, peo_no, peo_opt, ptest_eq, pbo_or, pbo_and, pbo_one, piter_l, piter_t, piter_s, prange_i, pvar_dat, ptab_some, plenO_dat, plenO_own, pfn_some, pstrV_str, frz1_own, frz1_dat, papp_own, pcop_list, ptry_ok, ptry_exc, ptry_bad, seqk_next, seqk_brk, seqk_cont, seqk_ret, seqk_exc, seqk_bad, seqk_ite, ifk_true, ifk_false, ifk_dec, ifk_not, ifk_exc, ifk_bad, ifk_ite, fink_ret, fink_next, fink_exc, fink_bad, fink_ite, upd_eq, upd_ne, bindPE_nil, bindPE_cons, none0_app, look_hit, look_ne, ok_bind, exc_bind, bad_bind, ite_bind, pcmp_eq_s, pcmp_ne_s, pcmp_eq_i, pcmp_ne_i, pcmp_lt, pcmp_gt, pcmp_ge, pbin_add_s, pbin_add_i, pbin_add_l, pbin_sub, pbin_mod, pbin_fdiv, pbool_b, pint_i, pstr_s, plen_s, plen_l, plen_t, plist_l, ofS_inj, String.reduceEq, String.reduceNe, List.zip_cons_cons, List.zip_nil_left, List.map_cons, List.map_nil, List.nil_append, List.append_nil, List.cons_append, ite_true, ite_false, decide_false, decide_true, Bool.not_true, Bool.not_false, or_true, true_or, or_false, false_or, or_self, and_self, and_true, true_and, and_false, false_and, not_true_eq_false, not_false_eq_true, reduceCtorEq, Bool.false_eq_true, Bool.true_eq_false, ← decide_not, decide_eq_true_eq, tx_inj, tx_len, ne_eq, Classical.not_not, eq13, eq10, eq1310, eq0, List.cons.injEq, C16_G, C16_F]
  have a1 : ([d].length + [q].length ≤ LIM) = True := eq_true (by show 2 ≤ LIM; decide)
  have a2 : ([d, q].length + [13, 10].length ≤ LIM) = True := eq_true (by show 4 ≤ LIM; decide)
  have sg : ∀ x, piter (.str (tx x)) = .ok (x.map ch) := fun x => by rw [piter_s, signsD_tx]
  unfold f16 B16
  rw [pcall_fin _ _ _ _ rfl]
  simp -implicitDefEqProofs only [↓reduceIte, ↓pex_seq, pex_nil, pex_ret, pex_cont, pex_asg, pex_own, pex_pop, pex_cop, pex_app, pex_raise, pex_try, pex_frz, pex_if, pex_while, pex_frn, pex_rng, fq_ok, fq_exc, fk_next, fk_cont, fk_ret, fk_exc, fk_ite, fr_nil, pev_con, pev_var, pev_tab, pev_bin, pev_neg, pev_not, pev_bo, pev_cmp, pev_ty, pev_tup, pev_lst, pev_sub, pev_cut, pev_meth, pev_replC, pev_replV, pev_replD, pev_call, pev_len, pev_lenO, pev_lis, pevs_nil, pevs_cons, peo_no, peo_opt, ptest_eq, pbo_or, pbo_and, pbo_one, piter_l, piter_t, prange_i, pvar_dat, ptab_some, plenO_dat, plenO_own, pfn_some, pstrV_str, frz1_own, frz1_dat, papp_own, pcop_list, ptry_ok, ptry_exc, ptry_bad, seqk_next, seqk_brk, seqk_cont, seqk_ret, seqk_exc, seqk_bad, seqk_ite, ifk_true, ifk_false, ifk_dec, ifk_not, ifk_exc, ifk_bad, ifk_ite, fink_ret, fink_next, fink_exc, fink_bad, fink_ite, upd_eq, upd_ne, bindPE_nil, bindPE_cons, none0_app, look_hit, look_ne, ok_bind, exc_bind, bad_bind, ite_bind, pcmp_eq_s, pcmp_ne_s, pcmp_eq_i, pcmp_ne_i, pcmp_lt, pcmp_gt, pcmp_ge, pbin_add_s, pbin_add_i, pbin_add_l, pbin_sub, pbin_mod, pbin_fdiv, pbool_b, pint_i, pstr_s, plen_s, plen_l, plen_t, plist_l, ofS_inj, String.reduceEq, String.reduceNe, List.zip_cons_cons, List.zip_nil_left, List.map_cons, List.map_nil, List.nil_append, List.append_nil, List.cons_append, ite_true, ite_false, decide_false, decide_true, Bool.not_true, Bool.not_false, or_true, true_or, or_false, false_or, or_self, and_self, and_true, true_and, and_false, false_and, not_true_eq_false, not_false_eq_true, reduceCtorEq, Bool.false_eq_true, Bool.true_eq_false, ← decide_not, decide_eq_true_eq, tx_inj, tx_len, ne_eq, Classical.not_not, eq13, eq10, eq1310, eq0, List.cons.injEq, C16_G, C16_F, d3_0, d3_1, s1310, a1, a2, ↓tx_app, sg]
  exact K _ (by simp -implicitDefEqProofs only [upd_eq, upd_ne, String.reduceEq, not_false_eq_true, none0_app])
noncomputable def wq (full : Bool) (d q : Nat) (f : List Nat) : List Nat := if (full || needs d q f) = true then quoted q f else f
theorem wq_fmt (d q : Nat) (f : List Nat) : wq false d q f = fmt d q f := rfl
theorem wq_len (full : Bool) (d q : Nat) (f : List Nat) : (wq full d q f).length ≤ 2 * f.length + 2 := by
  unfold wq quoted
  have := dbl_len q f
  split
  · rw [List.length_append, List.length_cons, List.length_singleton]; omega
  · omega
theorem wr_wq (full : Bool) (d q : Nat) (f : List Nat) : Wr d q f (wq full d q f) := by
  unfold wq
  split
  · exact .inl rfl
  · rename_i h
    exact .inr ⟨rfl, by cases hn : needs d q f with | false => rfl | true => rw [hn, Bool.or_true] at h; exact absurd rfl h⟩
theorem wrs_wq (full : Bool) (d q : Nat) : ∀ r : List (List Nat), Wrs d q r (r.map (wq full d q))
  | [] => .nil
  | f :: r => .cons (wr_wq full d q f) (wrs_wq full d q r)
theorem ppop_own {ρ : PE} (x l : Str) (ds : List PyData) (d : PyData) (h : (ds ++ [d]).length ≤ LIM) : ppop ρ x l (some (.own (ds ++ [d]))) = .ok (.next, upd (upd ρ l (.own ds)) x (.dat d)) := by
  show (match (ds ++ [d]).getLast? with | some d' => if (ds ++ [d]).length ≤ LIM then Out.ok (Fl.next, upd (upd ρ l (.own (ds ++ [d]).dropLast)) x (.dat d')) else .bad | none => .bad) = _
  rw [List.getLast?_concat]
  dsimp only
  rw [if_pos h, List.dropLast_concat]
theorem pcut_last (w : List Nat) (c : Nat) (h : (w ++ [c]).length ≤ LIM) : pcut (.str (tx (w ++ [c]))) none (some (-1)) = .ok (.str (tx w)) := by
  show (if (tx (w ++ [c])).length ≤ LIM then Out.ok (PyData.str (tx (((w ++ [c]).drop 0).take (clipAt (w ++ [c]).length (-1) - 0)))) else .bad) = _
  have e : clipAt (w ++ [c]).length (-1) = w.length := by
    rw [List.length_append, List.length_singleton]
    unfold clipAt
    split <;> omega
  rw [tx_len, if_pos h, e, List.drop_zero, Nat.sub_zero, List.take_left]
theorem join_flat (P : List (List Nat)) (h : P.flatten.length ≤ LIM) : pmeth .join (Str.ofString "") (rowd P) = .ok (.str (tx P.flatten)) := by
  rw [s0]
  have := pmeth_join [] P (by rw [← List.length_flatten, List.length_nil, Nat.mul_zero, Nat.add_zero]; exact h)
  rw [joinL_nil] at this
  exact this
structure V17 (full : Bool) (d q : Nat) (nl e : List Nat) (ds : List PyData) (ρ : PE) : Prop where
  fu : ρ (Str.ofString "full") = some (.dat (.bool full))
  en : ρ (Str.ofString "end") = some (.dat (.str (tx e)))
  di : ρ (Str.ofString "dialect") = some (.dat (D3 d q nl))
  qu : ρ (Str.ofString "quote") = some (.dat (.str (tx [q])))
  pi : ρ (Str.ofString "pieces") = some (.own ds)
noncomputable def R17 : QS := (.seq (.pop "last" "pieces") (.seq (.frz "pieces" (.ret (.bin .Add (.var "pieces") (.lst (.cons (.bin .Add (.cut (.var "last") .no (.opt (.neg (.con (.int 1))))) (.var "end")) .nil))))) .nil))
noncomputable def F17 : QS := (.seq (.ite (.bo .Or (.cons (.var "full") (.cons (.call "_law_must" (.cons (.var "field") (.cons (.var "dialect") .nil))) .nil))) (.seq (.app "pieces" (.bin .Add (.bin .Add (.bin .Add (.var "quote") (.replD (.var "field") (.var "quote") "quote" "quote")) (.var "quote")) (.sub (.var "dialect") (.con (.int 0))))) .nil) (.seq (.app "pieces" (.bin .Add (.var "field") (.sub (.var "dialect") (.con (.int 0))))) .nil)) .nil)
noncomputable def B17 : QS := (.seq (.asg "quote" (.sub (.var "dialect") (.con (.int 1)))) (.seq (.own "pieces" .nil) (.seq (.frn "field" (.var "row") F17) R17)))
noncomputable def C17 : PC := mkC [] [("_law_must", f16)]
theorem C17_G : C17.G = look [] := rfl
theorem C17_F : C17.F = look [("_law_must", f16)] := rfl
theorem C17_fuel : C17.fuel = LIM := rfl
noncomputable def f17 : List PyData → Out PyData := pcall C17 [Str.ofString "row", Str.ofString "full", Str.ofString "end", Str.ofString "dialect"] B17
theorem step17 {full : Bool} {d q : Nat} {nl e : List Nat} {ds : List PyData} {ρ : PE} (V : V17 full d q nl e ds ρ) (f : List Nat) (hf : f.length ≤ 1000) (hd : ds.length ≤ 1000) :
    pex C17 F17 (upd ρ (Str.ofString "field") (.dat (txd f))) = .ok (.next, upd (upd ρ (Str.ofString "field") (.dat (txd f))) (Str.ofString "pieces") (.own (ds ++ [txd (wq full d q f ++ [d])]))) := by
  have hL : LIM = 16777216 := rfl
  have ld := dbl_len q f
  have r5 : prepl (tx f) (tx [q]) (tx [q, q]) = .ok (.str (tx (dbl q f))) := by exact prepl_one q [q, q] _ (by simp) (by rw [List.length_cons, List.length_singleton]; omega)
  have c1 : (0 < [q].length ∧ 0 < [q].length ∧ [q].length + [q].length ≤ LIM) = True := eq_true ⟨Nat.zero_lt_one, Nat.zero_lt_one, by show 2 ≤ LIM; decide⟩
  have c2 : ([q].length + (dbl q f).length ≤ LIM) = True := eq_true (by rw [List.length_singleton]; omega)
  have c3 : ((q :: dbl q f).length + [q].length ≤ LIM) = True := eq_true (by rw [List.length_cons, List.length_singleton]; omega)
  have c4 : ((q :: (dbl q f ++ [q])).length + [d].length ≤ LIM) = True := eq_true (by rw [List.length_cons, List.length_append, List.length_singleton, List.length_singleton]; omega)
  have c5 : (f.length + [d].length ≤ LIM) = True := eq_true (by rw [List.length_singleton]; omega)
  have c6 : (ds.length < LIM) = True := eq_true (by omega)
  have e1 : quoted q f ++ [d] = q :: (dbl q f ++ [q] ++ [d]) := rfl
  unfold F17 wq
  cases full with
  | true =>
    rw [if_pos (Bool.true_or _), e1]
    simp -implicitDefEqProofs only [↓reduceIte, ↓pex_seq, pex_nil, pex_ret, pex_cont, pex_asg, pex_own, pex_pop, pex_cop, pex_app, pex_raise, pex_try, pex_frz, pex_if, pex_while, pex_frn, pex_rng, fq_ok, fq_exc, fk_next, fk_cont, fk_ret, fk_exc, fk_ite, fr_nil, pev_con, pev_var, pev_tab, pev_bin, pev_neg, pev_not, pev_bo, pev_cmp, pev_ty, pev_tup, pev_lst, pev_sub, pev_cut, pev_meth, pev_replC, pev_replV, pev_replD, pev_call, pev_len, pev_lenO, pev_lis, pevs_nil, pevs_cons, peo_no, peo_opt, ptest_eq, pbo_or, pbo_and, pbo_one, piter_l, piter_t, piter_s, prange_i, pvar_dat, ptab_some, plenO_dat, plenO_own, pfn_some, pstrV_str, frz1_own, frz1_dat, papp_own, pcop_list, ptry_ok, ptry_exc, ptry_bad, seqk_next, seqk_brk, seqk_cont, seqk_ret, seqk_exc, seqk_bad, seqk_ite, ifk_true, ifk_false, ifk_dec, ifk_not, ifk_exc, ifk_bad, ifk_ite, fink_ret, fink_next, fink_exc, fink_bad, fink_ite, upd_eq, upd_ne, bindPE_nil, bindPE_cons, none0_app, look_hit, look_ne, ok_bind, exc_bind, bad_bind, ite_bind, pcmp_eq_s, pcmp_ne_s, pcmp_eq_i, pcmp_ne_i, pcmp_lt, pcmp_gt, pcmp_ge, pbin_add_s, pbin_add_i, pbin_add_l, pbin_sub, pbin_mod, pbin_fdiv, pbool_b, pint_i, pstr_s, plen_s, plen_l, plen_t, plist_l, ofS_inj, String.reduceEq, String.reduceNe, List.zip_cons_cons, List.zip_nil_left, List.map_cons, List.map_nil, List.nil_append, List.append_nil, List.cons_append, ite_true, ite_false, decide_false, decide_true, Bool.not_true, Bool.not_false, or_true, true_or, or_false, false_or, or_self, and_self, and_true, true_and, and_false, false_and, not_true_eq_false, not_false_eq_true, reduceCtorEq, Bool.false_eq_true, Bool.true_eq_false, ← decide_not, decide_eq_true_eq, tx_inj, tx_len, ne_eq, Classical.not_not, eq13, eq10, eq1310, eq0, List.cons.injEq, C17_G, C17_F, V.fu, V.en, V.di, V.qu, V.pi, txd, f16_eq, r5, c1, c2, c3, c4, c6, d3_0, ↓tx_app]
  | false =>
    cases hn : needs d q f with
    | true =>
      rw [if_pos (Bool.or_true _), e1]
      simp -implicitDefEqProofs only [↓reduceIte, ↓pex_seq, pex_nil, pex_ret, pex_cont, pex_asg, pex_own, pex_pop, pex_cop, pex_app, pex_raise, pex_try, pex_frz, pex_if, pex_while, pex_frn, pex_rng, fq_ok, fq_exc, fk_next, fk_cont, fk_ret, fk_exc, fk_ite, fr_nil, pev_con, pev_var, pev_tab, pev_bin, pev_neg, pev_not, pev_bo, pev_cmp, pev_ty, pev_tup, pev_lst, pev_sub, pev_cut, pev_meth, pev_replC, pev_replV, pev_replD, pev_call, pev_len, pev_lenO, pev_lis, pevs_nil, pevs_cons, peo_no, peo_opt, ptest_eq, pbo_or, pbo_and, pbo_one, piter_l, piter_t, piter_s, prange_i, pvar_dat, ptab_some, plenO_dat, plenO_own, pfn_some, pstrV_str, frz1_own, frz1_dat, papp_own, pcop_list, ptry_ok, ptry_exc, ptry_bad, seqk_next, seqk_brk, seqk_cont, seqk_ret, seqk_exc, seqk_bad, seqk_ite, ifk_true, ifk_false, ifk_dec, ifk_not, ifk_exc, ifk_bad, ifk_ite, fink_ret, fink_next, fink_exc, fink_bad, fink_ite, upd_eq, upd_ne, bindPE_nil, bindPE_cons, none0_app, look_hit, look_ne, ok_bind, exc_bind, bad_bind, ite_bind, pcmp_eq_s, pcmp_ne_s, pcmp_eq_i, pcmp_ne_i, pcmp_lt, pcmp_gt, pcmp_ge, pbin_add_s, pbin_add_i, pbin_add_l, pbin_sub, pbin_mod, pbin_fdiv, pbool_b, pint_i, pstr_s, plen_s, plen_l, plen_t, plist_l, ofS_inj, String.reduceEq, String.reduceNe, List.zip_cons_cons, List.zip_nil_left, List.map_cons, List.map_nil, List.nil_append, List.append_nil, List.cons_append, ite_true, ite_false, decide_false, decide_true, Bool.not_true, Bool.not_false, or_true, true_or, or_false, false_or, or_self, and_self, and_true, true_and, and_false, false_and, not_true_eq_false, not_false_eq_true, reduceCtorEq, Bool.false_eq_true, Bool.true_eq_false, ← decide_not, decide_eq_true_eq, tx_inj, tx_len, ne_eq, Classical.not_not, eq13, eq10, eq1310, eq0, List.cons.injEq, C17_G, C17_F, V.fu, V.en, V.di, V.qu, V.pi, txd, f16_eq, hn, r5, c1, c2, c3, c4, c6, d3_0, ↓tx_app]
    | false =>
      rw [if_neg (by decide)]
      simp -implicitDefEqProofs only [↓reduceIte, ↓pex_seq, pex_nil, pex_ret, pex_cont, pex_asg, pex_own, pex_pop, pex_cop, pex_app, pex_raise, pex_try, pex_frz, pex_if, pex_while, pex_frn, pex_rng, fq_ok, fq_exc, fk_next, fk_cont, fk_ret, fk_exc, fk_ite, fr_nil, pev_con, pev_var, pev_tab, pev_bin, pev_neg, pev_not, pev_bo, pev_cmp, pev_ty, pev_tup, pev_lst, pev_sub, pev_cut, pev_meth, pev_replC, pev_replV, pev_replD, pev_call, pev_len, pev_lenO, pev_lis, pevs_nil, pevs_cons, peo_no, peo_opt, ptest_eq, pbo_or, pbo_and, pbo_one, piter_l, piter_t, piter_s, prange_i, pvar_dat, ptab_some, plenO_dat, plenO_own, pfn_some, pstrV_str, frz1_own, frz1_dat, papp_own, pcop_list, ptry_ok, ptry_exc, ptry_bad, seqk_next, seqk_brk, seqk_cont, seqk_ret, seqk_exc, seqk_bad, seqk_ite, ifk_true, ifk_false, ifk_dec, ifk_not, ifk_exc, ifk_bad, ifk_ite, fink_ret, fink_next, fink_exc, fink_bad, fink_ite, upd_eq, upd_ne, bindPE_nil, bindPE_cons, none0_app, look_hit, look_ne, ok_bind, exc_bind, bad_bind, ite_bind, pcmp_eq_s, pcmp_ne_s, pcmp_eq_i, pcmp_ne_i, pcmp_lt, pcmp_gt, pcmp_ge, pbin_add_s, pbin_add_i, pbin_add_l, pbin_sub, pbin_mod, pbin_fdiv, pbool_b, pint_i, pstr_s, plen_s, plen_l, plen_t, plist_l, ofS_inj, String.reduceEq, String.reduceNe, List.zip_cons_cons, List.zip_nil_left, List.map_cons, List.map_nil, List.nil_append, List.append_nil, List.cons_append, ite_true, ite_false, decide_false, decide_true, Bool.not_true, Bool.not_false, or_true, true_or, or_false, false_or, or_self, and_self, and_true, true_and, and_false, false_and, not_true_eq_false, not_false_eq_true, reduceCtorEq, Bool.false_eq_true, Bool.true_eq_false, ← decide_not, decide_eq_true_eq, tx_inj, tx_len, ne_eq, Classical.not_not, eq13, eq10, eq1310, eq0, List.cons.injEq, C17_G, C17_F, V.fu, V.en, V.di, V.qu, V.pi, txd, f16_eq, hn, c5, c6, d3_0, ↓tx_app]
theorem loop17 {full : Bool} {d q : Nat} {nl e : List Nat} : ∀ (r : List (List Nat)) (ds : List PyData) (ρ : PE), V17 full d q nl e ds ρ → (∀ f ∈ r, f.length ≤ 1000) → ds.length + r.length ≤ 1000 →
    ∃ ρ', fr C17 ["field"] F17 (r.map txd) ρ = .ok (.next, ρ') ∧ V17 full d q nl e (ds ++ (r.map (wq full d q)).map fun w => txd (w ++ [d])) ρ'
  | [], ds, ρ, V, _, _ => ⟨ρ, rfl, by rw [List.map_nil, List.map_nil, List.append_nil]; exact V⟩
  | f :: r, ds, ρ, V, hf, hl => by
    rw [List.length_cons] at hl
    obtain ⟨ρ', ih, V'⟩ := loop17 (full := full) (d := d) (q := q) (nl := nl) (e := e) r (ds ++ [txd (wq full d q f ++ [d])]) (upd (upd ρ (Str.ofString "field") (.dat (txd f))) (Str.ofString "pieces") (.own (ds ++ [txd (wq full d q f ++ [d])])))
      (by constructor <;> simp -implicitDefEqProofs only [upd_eq, upd_ne, String.reduceEq, not_false_eq_true, none0_app, V.fu, V.en, V.di, V.qu, V.pi]) (fun g hg => hf g (List.mem_cons_of_mem _ hg)) (by rw [List.length_append, List.length_singleton]; omega)
    refine ⟨ρ', ?_, by rw [List.map_cons, List.map_cons, List.append_cons]; exact V'⟩
    rw [List.map_cons, fr_name, step17 V f (hf f (List.mem_cons_self ..)) (by omega), fk_next, ih]
theorem f17_eq (r : List (List Nat)) (full : Bool) (e : List Nat) (d q : Nat) (nl : List Nat) (hr : r ≠ []) (hl : r.length ≤ 900) (hf : ∀ f ∈ r, f.length ≤ 1000) (he : e.length ≤ 2) :
    f17 [rowd r, .bool full, .str (tx e), D3 d q nl] = .ok (rowd (pcs d e (r.map (wq full d q)))) := by
  have hL : LIM = 16777216 := rfl
  have K : ∀ ρ, V17 full d q nl e [] ρ → fink (seqk C17 R17 (fr C17 ["field"] F17 (r.map txd) ρ)) = .ok (rowd (pcs d e (r.map (wq full d q)))) := by
    intro ρ V
    obtain ⟨ρ', h, V⟩ := loop17 r [] ρ V hf (by rw [List.length_nil]; omega)
    rw [h, seqk_next]
    rcases List.eq_nil_or_concat r with rfl | ⟨gs, g, rfl⟩
    · exact absurd rfl hr
    rw [List.concat_eq_append] at V hf hl ⊢
    rw [List.length_append, List.length_singleton] at hl
    have hg := hf g (List.mem_append_right _ (List.mem_singleton.mpr rfl))
    have wl := wq_len full d q g
    rw [List.nil_append, List.map_append, List.map_append, List.map_cons, List.map_nil, List.map_cons, List.map_nil] at V
    rw [List.map_append, List.map_cons, List.map_nil, pcs_snoc]
    generalize wq full d q g = w at V wl ⊢
    have ll : ((gs.map (wq full d q)).map fun w => txd (w ++ [d])).length = gs.length := by rw [List.length_map, List.length_map]
    have p1 : ∀ ρ : PE, ppop ρ (Str.ofString "last") (Str.ofString "pieces") (some (.own (((gs.map (wq full d q)).map fun w => txd (w ++ [d])) ++ [txd (w ++ [d])]))) = _ := fun ρ => ppop_own _ _ _ _ (by rw [List.length_append, List.length_singleton, ll]; omega)
    have e2 : rowd ((gs.map (wq full d q)).map (· ++ [d]) ++ [w ++ e]) = .list (((gs.map (wq full d q)).map fun w => txd (w ++ [d])) ++ [.str (tx (w ++ e))]) := by
      unfold rowd
      rw [List.map_append, List.map_map]
      rfl
    rw [e2]
    generalize ((gs.map (wq full d q)).map fun w => txd (w ++ [d])) = P at V p1 ll ⊢
    have p2 : pcut (txd (w ++ [d])) none (some (-1)) = _ := pcut_last w d (by rw [List.length_append, List.length_singleton]; omega)
    have a1 : (w.length + e.length ≤ LIM) = True := eq_true (by omega)
    have a2 : ((P.length + [PyData.str (tx (w ++ e))].length) ≤ LIM) = True := eq_true (by rw [ll, List.length_singleton]; omega)
    unfold R17
    simp -implicitDefEqProofs only [↓reduceIte, ↓pex_seq, pex_nil, pex_ret, pex_cont, pex_asg, pex_own, pex_pop, pex_cop, pex_app, pex_raise, pex_try, pex_frz, pex_if, pex_while, pex_frn, pex_rng, fq_ok, fq_exc, fk_next, fk_cont, fk_ret, fk_exc, fk_ite, fr_nil, pev_con, pev_var, pev_tab, pev_bin, pev_neg, pev_not, pev_bo, pev_cmp, pev_ty, pev_tup, pev_lst, pev_sub, pev_cut, pev_meth, pev_replC, pev_replV, pev_replD, pev_call, pev_len, pev_lenO, pev_lis, pevs_nil, pevs_cons, peo_no, peo_opt, ptest_eq, pbo_or, pbo_and, pbo_one, piter_l, piter_t, piter_s, prange_i, pvar_dat, ptab_some, plenO_dat, plenO_own, pfn_some, pstrV_str, frz1_own, frz1_dat, papp_own, pcop_list, ptry_ok, ptry_exc, ptry_bad, seqk_next, seqk_brk, seqk_cont, seqk_ret, seqk_exc, seqk_bad, seqk_ite, ifk_true, ifk_false, ifk_dec, ifk_not, ifk_exc, ifk_bad, ifk_ite, fink_ret, fink_next, fink_exc, fink_bad, fink_ite, upd_eq, upd_ne, bindPE_nil, bindPE_cons, none0_app, look_hit, look_ne, ok_bind, exc_bind, bad_bind, ite_bind, pcmp_eq_s, pcmp_ne_s, pcmp_eq_i, pcmp_ne_i, pcmp_lt, pcmp_gt, pcmp_ge, pbin_add_s, pbin_add_i, pbin_add_l, pbin_sub, pbin_mod, pbin_fdiv, pbool_b, pint_i, pstr_s, plen_s, plen_l, plen_t, plist_l, ofS_inj, String.reduceEq, String.reduceNe, List.zip_cons_cons, List.zip_nil_left, List.map_cons, List.map_nil, List.nil_append, List.append_nil, List.cons_append, ite_true, ite_false, decide_false, decide_true, Bool.not_true, Bool.not_false, or_true, true_or, or_false, false_or, or_self, and_self, and_true, true_and, and_false, false_and, not_true_eq_false, not_false_eq_true, reduceCtorEq, Bool.false_eq_true, Bool.true_eq_false, ← decide_not, decide_eq_true_eq, tx_inj, tx_len, ne_eq, Classical.not_not, eq13, eq10, eq1310, eq0, List.cons.injEq, C17_G, C17_F, V.fu, V.en, V.di, V.qu, V.pi, p1, p2, a1, ↓tx_app, one_le, a2]
  unfold f17 B17
  rw [pcall_fin _ _ _ _ rfl]
  have pr : piter (rowd r) = .ok (r.map txd) := rfl
  simp -implicitDefEqProofs only [↓reduceIte, ↓pex_seq, pex_nil, pex_ret, pex_cont, pex_asg, pex_own, pex_pop, pex_cop, pex_app, pex_raise, pex_try, pex_frz, pex_if, pex_while, pex_frn, pex_rng, fq_ok, fq_exc, fk_next, fk_cont, fk_ret, fk_exc, fk_ite, fr_nil, pev_con, pev_var, pev_tab, pev_bin, pev_neg, pev_not, pev_bo, pev_cmp, pev_ty, pev_tup, pev_lst, pev_sub, pev_cut, pev_meth, pev_replC, pev_replV, pev_replD, pev_call, pev_len, pev_lenO, pev_lis, pevs_nil, pevs_cons, peo_no, peo_opt, ptest_eq, pbo_or, pbo_and, pbo_one, piter_l, piter_t, piter_s, prange_i, pvar_dat, ptab_some, plenO_dat, plenO_own, pfn_some, pstrV_str, frz1_own, frz1_dat, papp_own, pcop_list, ptry_ok, ptry_exc, ptry_bad, seqk_next, seqk_brk, seqk_cont, seqk_ret, seqk_exc, seqk_bad, seqk_ite, ifk_true, ifk_false, ifk_dec, ifk_not, ifk_exc, ifk_bad, ifk_ite, fink_ret, fink_next, fink_exc, fink_bad, fink_ite, upd_eq, upd_ne, bindPE_nil, bindPE_cons, none0_app, look_hit, look_ne, ok_bind, exc_bind, bad_bind, ite_bind, pcmp_eq_s, pcmp_ne_s, pcmp_eq_i, pcmp_ne_i, pcmp_lt, pcmp_gt, pcmp_ge, pbin_add_s, pbin_add_i, pbin_add_l, pbin_sub, pbin_mod, pbin_fdiv, pbool_b, pint_i, pstr_s, plen_s, plen_l, plen_t, plist_l, ofS_inj, String.reduceEq, String.reduceNe, List.zip_cons_cons, List.zip_nil_left, List.map_cons, List.map_nil, List.nil_append, List.append_nil, List.cons_append, ite_true, ite_false, decide_false, decide_true, Bool.not_true, Bool.not_false, or_true, true_or, or_false, false_or, or_self, and_self, and_true, true_and, and_false, false_and, not_true_eq_false, not_false_eq_true, reduceCtorEq, Bool.false_eq_true, Bool.true_eq_false, ← decide_not, decide_eq_true_eq, tx_inj, tx_len, ne_eq, Classical.not_not, eq13, eq10, eq1310, eq0, List.cons.injEq, C17_G, C17_F, d3_1, nil_le, pr]
  exact K _ (by constructor <;> simp -implicitDefEqProofs only [upd_eq, upd_ne, String.reduceEq, not_false_eq_true, none0_app])
structure Rw (r : List (List Nat)) : Prop where
  ne : r ≠ []
  l5 : r.length ≤ 5
  l4 : ∀ f ∈ r, f.length ≤ 4
theorem sum_le' : ∀ (l : List Nat) (k : Nat), (∀ x ∈ l, x ≤ k) → l.sum ≤ k * l.length
  | [], _, _ => Nat.zero_le _
  | x :: l, k, h => by
    have h1 := sum_le' l k fun y hy => h y (List.mem_cons_of_mem _ hy)
    have h2 := h x (List.mem_cons_self ..)
    rw [List.sum_cons, List.length_cons, Nat.mul_succ]
    omega
theorem Rw.sz {r : List (List Nat)} (h : Rw r) : rsz r ≤ 55 := by
  have := sum_le' (r.map fun f => 2 * f.length + 3) 11 (by
    intro x hx
    obtain ⟨f, hf, rfl⟩ := List.mem_map.mp hx
    have := h.l4 f hf
    omega)
  have l5 := h.l5
  rw [List.length_map] at this
  unfold rsz
  omega
theorem Rw.wl {r : List (List Nat)} (h : Rw r) (full : Bool) (d q : Nat) : (joinL [d] (r.map (wq full d q))).length ≤ 55 := by
  refine Nat.le_trans (joinL_len _ _) (Nat.le_trans (sum_le' _ 11 ?_) ?_)
  · intro x hx
    rw [List.map_map] at hx
    obtain ⟨f, hf, rfl⟩ := List.mem_map.mp hx
    have h1 := h.l4 f hf
    have h2 := wq_len full d q f
    show (wq full d q f).length + 1 ≤ 11
    omega
  · have := h.l5
    rw [List.length_map, List.length_map]; omega
noncomputable def R18 : QS := (.seq (.ret (.var "text")) .nil)
noncomputable def F18 : QS := (.seq (.asg "text" (.bin .Add (.var "text") (.meth .join (.con (.str (Str.ofString ""))) (.call "_law_pieces" (.cons (.var "row") (.cons (.con (.bool false)) (.cons (.sub (.var "dialect") (.con (.int 2))) (.cons (.var "dialect") .nil)))))))) .nil)
noncomputable def B18 : QS := (.seq (.asg "text" (.con (.str (Str.ofString "")))) (.seq (.frn "row" (.var "table") F18) R18))
noncomputable def C18 : PC := mkC [] [("_law_pieces", f17)]
theorem C18_G : C18.G = look [] := rfl
theorem C18_F : C18.F = look [("_law_pieces", f17)] := rfl
theorem C18_fuel : C18.fuel = LIM := rfl
noncomputable def f18 : List PyData → Out PyData := pcall C18 [Str.ofString "table", Str.ofString "dialect"] B18
theorem loop18 {d q : Nat} {nl : List Nat} (hn : nl.length ≤ 2) : ∀ (R : Tab) (t : List Nat) (ρ : PE), ρ (Str.ofString "dialect") = some (.dat (D3 d q nl)) → ρ (Str.ofString "text") = some (.dat (.str (tx t))) → (∀ r ∈ R, Rw r) → t.length + 60 * R.length ≤ 10000 →
    ∃ ρ', fr C18 ["row"] F18 (R.map rowd) ρ = .ok (.next, ρ') ∧ ρ' (Str.ofString "text") = some (.dat (.str (tx (t ++ R.flatMap fun r => fmtRow d q r ++ nl))))
  | [], t, ρ, _, h2, _, _ => ⟨ρ, rfl, by rw [h2, List.flatMap_nil, List.append_nil]⟩
  | r :: R, t, ρ, h1, h2, hR, hl => by
    have hL : LIM = 16777216 := rfl
    rw [List.length_cons] at hl
    have w := hR r (List.mem_cons_self ..)
    have e17 := f17_eq r false nl d q nl w.ne (Nat.le_trans w.l5 (by decide)) (fun f hf => Nat.le_trans (w.l4 f hf) (by decide)) hn
    have wl := w.wl false d q
    have pf : (pcs d nl (r.map (wq false d q))).flatten = fmtRow d q r ++ nl := pcs_flat _ (fun e => w.ne (List.map_eq_nil_iff.mp e))
    have fl : (fmtRow d q r ++ nl).length ≤ 57 := by rw [List.length_append]; exact Nat.add_le_add wl hn
    have j1 := join_flat (pcs d nl (r.map (wq false d q))) (by rw [pf]; omega)
    rw [pf] at j1
    generalize pcs d nl (r.map (wq false d q)) = P at e17 j1
    generalize hx : fmtRow d q r ++ nl = x at fl j1
    have a1 : (t.length + x.length ≤ LIM) = True := eq_true (by omega)
    obtain ⟨ρ', ih, k⟩ := loop18 (d := d) (q := q) hn R (t ++ x) (upd (upd ρ (Str.ofString "row") (.dat (rowd r))) (Str.ofString "text") (.dat (.str (tx (t ++ x))))) (by simp -implicitDefEqProofs only [upd_eq, upd_ne, String.reduceEq, not_false_eq_true, none0_app, h1]) (by simp -implicitDefEqProofs only [upd_eq, upd_ne, String.reduceEq, not_false_eq_true, none0_app]) (fun r hr => hR r (List.mem_cons_of_mem _ hr)) (by rw [List.length_append]; omega)
    refine ⟨ρ', ?_, by rw [k, List.flatMap_cons, hx, List.append_assoc]⟩
    rw [← ih, List.map_cons, fr_name]
    unfold F18
    simp -implicitDefEqProofs only [↓reduceIte, ↓pex_seq, pex_nil, pex_ret, pex_cont, pex_asg, pex_own, pex_pop, pex_cop, pex_app, pex_raise, pex_try, pex_frz, pex_if, pex_while, pex_frn, pex_rng, fq_ok, fq_exc, fk_next, fk_cont, fk_ret, fk_exc, fk_ite, fr_nil, pev_con, pev_var, pev_tab, pev_bin, pev_neg, pev_not, pev_bo, pev_cmp, pev_ty, pev_tup, pev_lst, pev_sub, pev_cut, pev_meth, pev_replC, pev_replV, pev_replD, pev_call, pev_len, pev_lenO, pev_lis, pevs_nil, pevs_cons, peo_no, peo_opt, ptest_eq, pbo_or, pbo_and, pbo_one, piter_l, piter_t, piter_s, prange_i, pvar_dat, ptab_some, plenO_dat, plenO_own, pfn_some, pstrV_str, frz1_own, frz1_dat, papp_own, pcop_list, ptry_ok, ptry_exc, ptry_bad, seqk_next, seqk_brk, seqk_cont, seqk_ret, seqk_exc, seqk_bad, seqk_ite, ifk_true, ifk_false, ifk_dec, ifk_not, ifk_exc, ifk_bad, ifk_ite, fink_ret, fink_next, fink_exc, fink_bad, fink_ite, upd_eq, upd_ne, bindPE_nil, bindPE_cons, none0_app, look_hit, look_ne, ok_bind, exc_bind, bad_bind, ite_bind, pcmp_eq_s, pcmp_ne_s, pcmp_eq_i, pcmp_ne_i, pcmp_lt, pcmp_gt, pcmp_ge, pbin_add_s, pbin_add_i, pbin_add_l, pbin_sub, pbin_mod, pbin_fdiv, pbool_b, pint_i, pstr_s, plen_s, plen_l, plen_t, plist_l, ofS_inj, String.reduceEq, String.reduceNe, List.zip_cons_cons, List.zip_nil_left, List.map_cons, List.map_nil, List.nil_append, List.append_nil, List.cons_append, ite_true, ite_false, decide_false, decide_true, Bool.not_true, Bool.not_false, or_true, true_or, or_false, false_or, or_self, and_self, and_true, true_and, and_false, false_and, not_true_eq_false, not_false_eq_true, reduceCtorEq, Bool.false_eq_true, Bool.true_eq_false, ← decide_not, decide_eq_true_eq, tx_inj, tx_len, ne_eq, Classical.not_not, eq13, eq10, eq1310, eq0, List.cons.injEq, C18_G, C18_F, h1, h2, d3_2, e17, j1, a1, ↓tx_app]
theorem f18_eq (R : Tab) (d q : Nat) (nl : List Nat) (hn : nl.length ≤ 2) (hR : ∀ r ∈ R, Rw r) (hl : R.length ≤ 100) : f18 [tabd R, D3 d q nl] = .ok (.str (tx (R.flatMap fun r => fmtRow d q r ++ nl))) := by
  have K : ∀ ρ, ρ (Str.ofString "dialect") = some (.dat (D3 d q nl)) → ρ (Str.ofString "text") = some (.dat (.str (tx []))) → fink (seqk C18 R18 (fr C18 ["row"] F18 (R.map rowd) ρ)) = .ok (.str (tx (R.flatMap fun r => fmtRow d q r ++ nl))) := by
    intro ρ h1 h2
    obtain ⟨ρ', h, k⟩ := loop18 hn R [] ρ h1 h2 hR (by rw [List.length_nil]; omega)
    rw [List.nil_append] at k
    rw [h, seqk_next]
    unfold R18
    simp -implicitDefEqProofs only [↓reduceIte, ↓pex_seq, pex_nil, pex_ret, pex_cont, pex_asg, pex_own, pex_pop, pex_cop, pex_app, pex_raise, pex_try, pex_frz, pex_if, pex_while, pex_frn, pex_rng, fq_ok, fq_exc, fk_next, fk_cont, fk_ret, fk_exc, fk_ite, fr_nil, pev_con, pev_var, pev_tab, pev_bin, pev_neg, pev_not, pev_bo, pev_cmp, pev_ty, pev_tup, pev_lst, pev_sub, pev_cut, pev_meth, pev_replC, pev_replV, pev_replD, pev_call, pev_len, pev_lenO, pev_lis, pevs_nil, pevs_cons, peo_no, peo_opt, ptest_eq, pbo_or, pbo_and, pbo_one, piter_l, piter_t, piter_s, prange_i, pvar_dat, ptab_some, plenO_dat, plenO_own, pfn_some, pstrV_str, frz1_own, frz1_dat, papp_own, pcop_list, ptry_ok, ptry_exc, ptry_bad, seqk_next, seqk_brk, seqk_cont, seqk_ret, seqk_exc, seqk_bad, seqk_ite, ifk_true, ifk_false, ifk_dec, ifk_not, ifk_exc, ifk_bad, ifk_ite, fink_ret, fink_next, fink_exc, fink_bad, fink_ite, upd_eq, upd_ne, bindPE_nil, bindPE_cons, none0_app, look_hit, look_ne, ok_bind, exc_bind, bad_bind, ite_bind, pcmp_eq_s, pcmp_ne_s, pcmp_eq_i, pcmp_ne_i, pcmp_lt, pcmp_gt, pcmp_ge, pbin_add_s, pbin_add_i, pbin_add_l, pbin_sub, pbin_mod, pbin_fdiv, pbool_b, pint_i, pstr_s, plen_s, plen_l, plen_t, plist_l, ofS_inj, String.reduceEq, String.reduceNe, List.zip_cons_cons, List.zip_nil_left, List.map_cons, List.map_nil, List.nil_append, List.append_nil, List.cons_append, ite_true, ite_false, decide_false, decide_true, Bool.not_true, Bool.not_false, or_true, true_or, or_false, false_or, or_self, and_self, and_true, true_and, and_false, false_and, not_true_eq_false, not_false_eq_true, reduceCtorEq, Bool.false_eq_true, Bool.true_eq_false, ← decide_not, decide_eq_true_eq, tx_inj, tx_len, ne_eq, Classical.not_not, eq13, eq10, eq1310, eq0, List.cons.injEq, C18_G, C18_F, k]
  unfold f18 B18
  rw [pcall_fin _ _ _ _ rfl]
  have pr : piter (tabd R) = .ok (R.map rowd) := rfl
  simp -implicitDefEqProofs only [↓reduceIte, ↓pex_seq, pex_nil, pex_ret, pex_cont, pex_asg, pex_own, pex_pop, pex_cop, pex_app, pex_raise, pex_try, pex_frz, pex_if, pex_while, pex_frn, pex_rng, fq_ok, fq_exc, fk_next, fk_cont, fk_ret, fk_exc, fk_ite, fr_nil, pev_con, pev_var, pev_tab, pev_bin, pev_neg, pev_not, pev_bo, pev_cmp, pev_ty, pev_tup, pev_lst, pev_sub, pev_cut, pev_meth, pev_replC, pev_replV, pev_replD, pev_call, pev_len, pev_lenO, pev_lis, pevs_nil, pevs_cons, peo_no, peo_opt, ptest_eq, pbo_or, pbo_and, pbo_one, piter_l, piter_t, piter_s, prange_i, pvar_dat, ptab_some, plenO_dat, plenO_own, pfn_some, pstrV_str, frz1_own, frz1_dat, papp_own, pcop_list, ptry_ok, ptry_exc, ptry_bad, seqk_next, seqk_brk, seqk_cont, seqk_ret, seqk_exc, seqk_bad, seqk_ite, ifk_true, ifk_false, ifk_dec, ifk_not, ifk_exc, ifk_bad, ifk_ite, fink_ret, fink_next, fink_exc, fink_bad, fink_ite, upd_eq, upd_ne, bindPE_nil, bindPE_cons, none0_app, look_hit, look_ne, ok_bind, exc_bind, bad_bind, ite_bind, pcmp_eq_s, pcmp_ne_s, pcmp_eq_i, pcmp_ne_i, pcmp_lt, pcmp_gt, pcmp_ge, pbin_add_s, pbin_add_i, pbin_add_l, pbin_sub, pbin_mod, pbin_fdiv, pbool_b, pint_i, pstr_s, plen_s, plen_l, plen_t, plist_l, ofS_inj, String.reduceEq, String.reduceNe, List.zip_cons_cons, List.zip_nil_left, List.map_cons, List.map_nil, List.nil_append, List.append_nil, List.cons_append, ite_true, ite_false, decide_false, decide_true, Bool.not_true, Bool.not_false, or_true, true_or, or_false, false_or, or_self, and_self, and_true, true_and, and_false, false_and, not_true_eq_false, not_false_eq_true, reduceCtorEq, Bool.false_eq_true, Bool.true_eq_false, ← decide_not, decide_eq_true_eq, tx_inj, tx_len, ne_eq, Classical.not_not, eq13, eq10, eq1310, eq0, List.cons.injEq, C18_G, C18_F, pr, s0]
  exact K _ (by simp -implicitDefEqProofs only [upd_eq, upd_ne, String.reduceEq, not_false_eq_true, none0_app]) (by simp -implicitDefEqProofs only [upd_eq, upd_ne, String.reduceEq, not_false_eq_true, none0_app])
noncomputable def B19 : QS := (.seq (.ite (.cmp .Eq (.var "kind") (.con (.int 0))) (.seq (.ret (.bin .Add (.bin .Add (.var "front") (.var "quote")) (.replD (.var "rest") (.var "quote") "quote" "quote"))) .nil) .nil) (.seq (.ite (.cmp .Eq (.var "kind") (.con (.int 1))) (.seq (.ret (.bin .Add (.bin .Add (.bin .Add (.bin .Add (.var "front") (.var "quote")) (.var "quote")) (.con (.str (Str.ofString "x")))) (.var "rest"))) .nil) .nil) (.seq (.ret (.bin .Add (.bin .Add (.bin .Add (.var "front") (.con (.str (Str.ofString "x")))) (.var "quote")) (.var "rest"))) .nil)))
noncomputable def C19 : PC := mkC [] []
theorem C19_G : C19.G = look [] := rfl
theorem C19_F : C19.F = look [] := rfl
theorem C19_fuel : C19.fuel = LIM := rfl
noncomputable def f19 : List PyData → Out PyData := pcall C19 [Str.ofString "kind", Str.ofString "front", Str.ofString "rest", Str.ofString "quote"] B19
theorem f19_eq (k : Nat) (a b : List Nat) (q : Nat) (hk : k < 3) (ha : a.length ≤ 1000) (hb : b.length ≤ 1000) : ∃ x, f19 [.int (k : Int), .str (tx a), .str (tx b), .str (tx [q])] = .ok (.str (tx (a ++ x))) ∧ x.length ≤ 2003 ∧ (x = q :: dbl q b ∨ x = q :: q :: 120 :: b ∨ x = 120 :: q :: b) := by
  have hL : LIM = 16777216 := rfl
  have ld := dbl_len q b
  have c1 : (0 < [q].length ∧ 0 < [q].length ∧ [q].length + [q].length ≤ LIM) = True := eq_true ⟨Nat.zero_lt_one, Nat.zero_lt_one, by show 2 ≤ LIM; decide⟩
  have r5 : prepl (tx b) (tx [q]) (tx [q, q]) = .ok (.str (tx (dbl q b))) := by exact prepl_one q [q, q] _ (by simp) (by rw [List.length_cons, List.length_singleton]; omega)
  have aq : (a.length + [q].length ≤ LIM) = True := eq_true (by rw [List.length_singleton]; omega)
  have ax : (a.length + [120].length ≤ LIM) = True := eq_true (by rw [List.length_singleton]; omega)
  have a2 : ∀ c k : Nat, ((a ++ [c]).length + [k].length ≤ LIM) = True := fun c k => eq_true (by rw [List.length_append, List.length_singleton, List.length_singleton]; omega)
  have a3 : ∀ c e k : Nat, ((a ++ [c] ++ [e]).length + [k].length ≤ LIM) = True := fun c e k => eq_true (by rw [List.length_append, List.length_append, List.length_singleton, List.length_singleton, List.length_singleton]; omega)
  have a4 : ∀ c e k : Nat, ((a ++ [c] ++ [e] ++ [k]).length + b.length ≤ LIM) = True := fun c e k => eq_true (by rw [List.length_append, List.length_append, List.length_append, List.length_singleton, List.length_singleton, List.length_singleton]; omega)
  have a5 : ∀ c e : Nat, ((a ++ [c] ++ [e]).length + b.length ≤ LIM) = True := fun c e => eq_true (by rw [List.length_append, List.length_append, List.length_singleton, List.length_singleton]; omega)
  have a6 : ((a ++ [q]).length + (dbl q b).length ≤ LIM) = True := eq_true (by rw [List.length_append, List.length_singleton]; omega)
  have hk3 : k = 0 ∨ k = 1 ∨ k = 2 := by omega
  unfold f19 B19
  rw [pcall_fin _ _ _ _ rfl]
  rcases hk3 with rfl | rfl | rfl
  · refine ⟨q :: dbl q b, ?_, by rw [List.length_cons]; omega, .inl rfl⟩
    rw [show a ++ q :: dbl q b = a ++ [q] ++ dbl q b from List.append_cons ..]
    have z : (((0 : Nat) : Int) = 0) = True := eq_true rfl
    simp -implicitDefEqProofs only [↓reduceIte, ↓pex_seq, pex_nil, pex_ret, pex_cont, pex_asg, pex_own, pex_pop, pex_cop, pex_app, pex_raise, pex_try, pex_frz, pex_if, pex_while, pex_frn, pex_rng, fq_ok, fq_exc, fk_next, fk_cont, fk_ret, fk_exc, fk_ite, fr_nil, pev_con, pev_var, pev_tab, pev_bin, pev_neg, pev_not, pev_bo, pev_cmp, pev_ty, pev_tup, pev_lst, pev_sub, pev_cut, pev_meth, pev_replC, pev_replV, pev_replD, pev_call, pev_len, pev_lenO, pev_lis, pevs_nil, pevs_cons, peo_no, peo_opt, ptest_eq, pbo_or, pbo_and, pbo_one, piter_l, piter_t, piter_s, prange_i, pvar_dat, ptab_some, plenO_dat, plenO_own, pfn_some, pstrV_str, frz1_own, frz1_dat, papp_own, pcop_list, ptry_ok, ptry_exc, ptry_bad, seqk_next, seqk_brk, seqk_cont, seqk_ret, seqk_exc, seqk_bad, seqk_ite, ifk_true, ifk_false, ifk_dec, ifk_not, ifk_exc, ifk_bad, ifk_ite, fink_ret, fink_next, fink_exc, fink_bad, fink_ite, upd_eq, upd_ne, bindPE_nil, bindPE_cons, none0_app, look_hit, look_ne, ok_bind, exc_bind, bad_bind, ite_bind, pcmp_eq_s, pcmp_ne_s, pcmp_eq_i, pcmp_ne_i, pcmp_lt, pcmp_gt, pcmp_ge, pbin_add_s, pbin_add_i, pbin_add_l, pbin_sub, pbin_mod, pbin_fdiv, pbool_b, pint_i, pstr_s, plen_s, plen_l, plen_t, plist_l, ofS_inj, String.reduceEq, String.reduceNe, List.zip_cons_cons, List.zip_nil_left, List.map_cons, List.map_nil, List.nil_append, List.append_nil, List.cons_append, ite_true, ite_false, decide_false, decide_true, Bool.not_true, Bool.not_false, or_true, true_or, or_false, false_or, or_self, and_self, and_true, true_and, and_false, false_and, not_true_eq_false, not_false_eq_true, reduceCtorEq, Bool.false_eq_true, Bool.true_eq_false, ← decide_not, decide_eq_true_eq, tx_inj, tx_len, ne_eq, Classical.not_not, eq13, eq10, eq1310, eq0, List.cons.injEq, C19_G, C19_F, z, aq, c1, r5, a6, ↓tx_app]
  · refine ⟨q :: q :: 120 :: b, ?_, by rw [List.length_cons, List.length_cons, List.length_cons]; omega, .inr (.inl rfl)⟩
    rw [show a ++ q :: q :: 120 :: b = a ++ [q] ++ [q] ++ [120] ++ b by rw [List.append_cons, List.append_cons, List.append_cons]]
    have z : (((1 : Nat) : Int) = 0) = False := eq_false (by decide)
    have z1 : (((1 : Nat) : Int) = 1) = True := eq_true rfl
    simp -implicitDefEqProofs only [↓reduceIte, ↓pex_seq, pex_nil, pex_ret, pex_cont, pex_asg, pex_own, pex_pop, pex_cop, pex_app, pex_raise, pex_try, pex_frz, pex_if, pex_while, pex_frn, pex_rng, fq_ok, fq_exc, fk_next, fk_cont, fk_ret, fk_exc, fk_ite, fr_nil, pev_con, pev_var, pev_tab, pev_bin, pev_neg, pev_not, pev_bo, pev_cmp, pev_ty, pev_tup, pev_lst, pev_sub, pev_cut, pev_meth, pev_replC, pev_replV, pev_replD, pev_call, pev_len, pev_lenO, pev_lis, pevs_nil, pevs_cons, peo_no, peo_opt, ptest_eq, pbo_or, pbo_and, pbo_one, piter_l, piter_t, piter_s, prange_i, pvar_dat, ptab_some, plenO_dat, plenO_own, pfn_some, pstrV_str, frz1_own, frz1_dat, papp_own, pcop_list, ptry_ok, ptry_exc, ptry_bad, seqk_next, seqk_brk, seqk_cont, seqk_ret, seqk_exc, seqk_bad, seqk_ite, ifk_true, ifk_false, ifk_dec, ifk_not, ifk_exc, ifk_bad, ifk_ite, fink_ret, fink_next, fink_exc, fink_bad, fink_ite, upd_eq, upd_ne, bindPE_nil, bindPE_cons, none0_app, look_hit, look_ne, ok_bind, exc_bind, bad_bind, ite_bind, pcmp_eq_s, pcmp_ne_s, pcmp_eq_i, pcmp_ne_i, pcmp_lt, pcmp_gt, pcmp_ge, pbin_add_s, pbin_add_i, pbin_add_l, pbin_sub, pbin_mod, pbin_fdiv, pbool_b, pint_i, pstr_s, plen_s, plen_l, plen_t, plist_l, ofS_inj, String.reduceEq, String.reduceNe, List.zip_cons_cons, List.zip_nil_left, List.map_cons, List.map_nil, List.nil_append, List.append_nil, List.cons_append, ite_true, ite_false, decide_false, decide_true, Bool.not_true, Bool.not_false, or_true, true_or, or_false, false_or, or_self, and_self, and_true, true_and, and_false, false_and, not_true_eq_false, not_false_eq_true, reduceCtorEq, Bool.false_eq_true, Bool.true_eq_false, ← decide_not, decide_eq_true_eq, tx_inj, tx_len, ne_eq, Classical.not_not, eq13, eq10, eq1310, eq0, List.cons.injEq, C19_G, C19_F, z, z1, aq, a2, a3, a4, sx, ↓tx_app]
  · refine ⟨120 :: q :: b, ?_, by rw [List.length_cons, List.length_cons]; omega, .inr (.inr rfl)⟩
    rw [show a ++ 120 :: q :: b = a ++ [120] ++ [q] ++ b by rw [List.append_cons, List.append_cons]]
    have z : (((2 : Nat) : Int) = 0) = False := eq_false (by decide)
    have z1 : (((2 : Nat) : Int) = 1) = False := eq_false (by decide)
    simp -implicitDefEqProofs only [↓reduceIte, ↓pex_seq, pex_nil, pex_ret, pex_cont, pex_asg, pex_own, pex_pop, pex_cop, pex_app, pex_raise, pex_try, pex_frz, pex_if, pex_while, pex_frn, pex_rng, fq_ok, fq_exc, fk_next, fk_cont, fk_ret, fk_exc, fk_ite, fr_nil, pev_con, pev_var, pev_tab, pev_bin, pev_neg, pev_not, pev_bo, pev_cmp, pev_ty, pev_tup, pev_lst, pev_sub, pev_cut, pev_meth, pev_replC, pev_replV, pev_replD, pev_call, pev_len, pev_lenO, pev_lis, pevs_nil, pevs_cons, peo_no, peo_opt, ptest_eq, pbo_or, pbo_and, pbo_one, piter_l, piter_t, piter_s, prange_i, pvar_dat, ptab_some, plenO_dat, plenO_own, pfn_some, pstrV_str, frz1_own, frz1_dat, papp_own, pcop_list, ptry_ok, ptry_exc, ptry_bad, seqk_next, seqk_brk, seqk_cont, seqk_ret, seqk_exc, seqk_bad, seqk_ite, ifk_true, ifk_false, ifk_dec, ifk_not, ifk_exc, ifk_bad, ifk_ite, fink_ret, fink_next, fink_exc, fink_bad, fink_ite, upd_eq, upd_ne, bindPE_nil, bindPE_cons, none0_app, look_hit, look_ne, ok_bind, exc_bind, bad_bind, ite_bind, pcmp_eq_s, pcmp_ne_s, pcmp_eq_i, pcmp_ne_i, pcmp_lt, pcmp_gt, pcmp_ge, pbin_add_s, pbin_add_i, pbin_add_l, pbin_sub, pbin_mod, pbin_fdiv, pbool_b, pint_i, pstr_s, plen_s, plen_l, plen_t, plist_l, ofS_inj, String.reduceEq, String.reduceNe, List.zip_cons_cons, List.zip_nil_left, List.map_cons, List.map_nil, List.nil_append, List.append_nil, List.cons_append, ite_true, ite_false, decide_false, decide_true, Bool.not_true, Bool.not_false, or_true, true_or, or_false, false_or, or_self, and_self, and_true, true_and, and_false, false_and, not_true_eq_false, not_false_eq_true, reduceCtorEq, Bool.false_eq_true, Bool.true_eq_false, ← decide_not, decide_eq_true_eq, tx_inj, tx_len, ne_eq, Classical.not_not, eq13, eq10, eq1310, eq0, List.cons.injEq, C19_G, C19_F, z, z1, ax, a2, a5, sx, ↓tx_app]
noncomputable def R23 : QS := (.seq (.ret (.con (.bool true))) .nil)
noncomputable def G23 : QS := (.seq (.ite (.not (.ty (.var "field") "str")) (.seq (.ret (.con (.bool false))) .nil) .nil) .nil)
noncomputable def F23 : QS := (.seq (.ite (.not (.ty (.var "row") "list")) (.seq (.ret (.con (.bool false))) .nil) .nil) (.seq (.frn "field" (.var "row") G23) .nil))
noncomputable def B23 : QS := (.seq (.ite (.cmp .NotEq (.var "got") (.var "table")) (.seq (.ret (.con (.bool false))) .nil) .nil) (.seq (.frn "row" (.var "got") F23) R23))
noncomputable def C23 : PC := mkC [] []
theorem C23_G : C23.G = look [] := rfl
theorem C23_F : C23.F = look [] := rfl
theorem C23_fuel : C23.fuel = LIM := rfl
noncomputable def f23 : List PyData → Out PyData := pcall C23 [Str.ofString "got", Str.ofString "table"] B23
theorem it_row (r : List (List Nat)) : isType (rowd r) (Str.ofString "list") = .ok (.bool true) := if_pos rfl
theorem it_str (x : Str) : isType (.str x) (Str.ofString "str") = .ok (.bool true) := by
  unfold isType
  rw [if_neg (by rw [ofS_inj]; decide), if_pos rfl]; rfl
theorem loop23f : ∀ (r : List (List Nat)) (ρ : PE), ∃ ρ', fr C23 ["field"] G23 (r.map txd) ρ = .ok (.next, ρ')
  | [], ρ => ⟨ρ, rfl⟩
  | f :: r, ρ => by
    obtain ⟨ρ', h⟩ := loop23f r (upd ρ (Str.ofString "field") (.dat (txd f)))
    refine ⟨ρ', ?_⟩
    rw [← h, List.map_cons, fr_name]
    unfold G23
    simp -implicitDefEqProofs only [↓reduceIte, ↓pex_seq, pex_nil, pex_ret, pex_cont, pex_asg, pex_own, pex_pop, pex_cop, pex_app, pex_raise, pex_try, pex_frz, pex_if, pex_while, pex_frn, pex_rng, fq_ok, fq_exc, fk_next, fk_cont, fk_ret, fk_exc, fk_ite, fr_nil, pev_con, pev_var, pev_tab, pev_bin, pev_neg, pev_not, pev_bo, pev_cmp, pev_ty, pev_tup, pev_lst, pev_sub, pev_cut, pev_meth, pev_replC, pev_replV, pev_replD, pev_call, pev_len, pev_lenO, pev_lis, pevs_nil, pevs_cons, peo_no, peo_opt, ptest_eq, pbo_or, pbo_and, pbo_one, piter_l, piter_t, piter_s, prange_i, pvar_dat, ptab_some, plenO_dat, plenO_own, pfn_some, pstrV_str, frz1_own, frz1_dat, papp_own, pcop_list, ptry_ok, ptry_exc, ptry_bad, seqk_next, seqk_brk, seqk_cont, seqk_ret, seqk_exc, seqk_bad, seqk_ite, ifk_true, ifk_false, ifk_dec, ifk_not, ifk_exc, ifk_bad, ifk_ite, fink_ret, fink_next, fink_exc, fink_bad, fink_ite, upd_eq, upd_ne, bindPE_nil, bindPE_cons, none0_app, look_hit, look_ne, ok_bind, exc_bind, bad_bind, ite_bind, pcmp_eq_s, pcmp_ne_s, pcmp_eq_i, pcmp_ne_i, pcmp_lt, pcmp_gt, pcmp_ge, pbin_add_s, pbin_add_i, pbin_add_l, pbin_sub, pbin_mod, pbin_fdiv, pbool_b, pint_i, pstr_s, plen_s, plen_l, plen_t, plist_l, ofS_inj, String.reduceEq, String.reduceNe, List.zip_cons_cons, List.zip_nil_left, List.map_cons, List.map_nil, List.nil_append, List.append_nil, List.cons_append, ite_true, ite_false, decide_false, decide_true, Bool.not_true, Bool.not_false, or_true, true_or, or_false, false_or, or_self, and_self, and_true, true_and, and_false, false_and, not_true_eq_false, not_false_eq_true, reduceCtorEq, Bool.false_eq_true, Bool.true_eq_false, ← decide_not, decide_eq_true_eq, tx_inj, tx_len, ne_eq, Classical.not_not, eq13, eq10, eq1310, eq0, List.cons.injEq, C23_G, C23_F, txd, it_str]
theorem loop23r : ∀ (R : Tab) (ρ : PE), ∃ ρ', fr C23 ["row"] F23 (R.map rowd) ρ = .ok (.next, ρ')
  | [], ρ => ⟨ρ, rfl⟩
  | r :: R, ρ => by
    obtain ⟨ρ1, h1⟩ := loop23f r (upd ρ (Str.ofString "row") (.dat (rowd r)))
    obtain ⟨ρ', h⟩ := loop23r R ρ1
    refine ⟨ρ', ?_⟩
    have pr : piter (rowd r) = .ok (r.map txd) := rfl
    rw [← h, List.map_cons, fr_name]
    unfold F23
    simp -implicitDefEqProofs only [↓reduceIte, ↓pex_seq, pex_nil, pex_ret, pex_cont, pex_asg, pex_own, pex_pop, pex_cop, pex_app, pex_raise, pex_try, pex_frz, pex_if, pex_while, pex_frn, pex_rng, fq_ok, fq_exc, fk_next, fk_cont, fk_ret, fk_exc, fk_ite, fr_nil, pev_con, pev_var, pev_tab, pev_bin, pev_neg, pev_not, pev_bo, pev_cmp, pev_ty, pev_tup, pev_lst, pev_sub, pev_cut, pev_meth, pev_replC, pev_replV, pev_replD, pev_call, pev_len, pev_lenO, pev_lis, pevs_nil, pevs_cons, peo_no, peo_opt, ptest_eq, pbo_or, pbo_and, pbo_one, piter_l, piter_t, piter_s, prange_i, pvar_dat, ptab_some, plenO_dat, plenO_own, pfn_some, pstrV_str, frz1_own, frz1_dat, papp_own, pcop_list, ptry_ok, ptry_exc, ptry_bad, seqk_next, seqk_brk, seqk_cont, seqk_ret, seqk_exc, seqk_bad, seqk_ite, ifk_true, ifk_false, ifk_dec, ifk_not, ifk_exc, ifk_bad, ifk_ite, fink_ret, fink_next, fink_exc, fink_bad, fink_ite, upd_eq, upd_ne, bindPE_nil, bindPE_cons, none0_app, look_hit, look_ne, ok_bind, exc_bind, bad_bind, ite_bind, pcmp_eq_s, pcmp_ne_s, pcmp_eq_i, pcmp_ne_i, pcmp_lt, pcmp_gt, pcmp_ge, pbin_add_s, pbin_add_i, pbin_add_l, pbin_sub, pbin_mod, pbin_fdiv, pbool_b, pint_i, pstr_s, plen_s, plen_l, plen_t, plist_l, ofS_inj, String.reduceEq, String.reduceNe, List.zip_cons_cons, List.zip_nil_left, List.map_cons, List.map_nil, List.nil_append, List.append_nil, List.cons_append, ite_true, ite_false, decide_false, decide_true, Bool.not_true, Bool.not_false, or_true, true_or, or_false, false_or, or_self, and_self, and_true, true_and, and_false, false_and, not_true_eq_false, not_false_eq_true, reduceCtorEq, Bool.false_eq_true, Bool.true_eq_false, ← decide_not, decide_eq_true_eq, tx_inj, tx_len, ne_eq, Classical.not_not, eq13, eq10, eq1310, eq0, List.cons.injEq, C23_G, C23_F, it_row, pr, h1]
theorem f23_eq (R : Tab) : f23 [tabd R, tabd R] = .ok (.bool true) := by
  have K : ∀ ρ, fink (seqk C23 R23 (fr C23 ["row"] F23 (R.map rowd) ρ)) = .ok (.bool true) := by
    intro ρ
    obtain ⟨ρ', e⟩ := loop23r R ρ
    rw [e, seqk_next]
    unfold R23
    simp -implicitDefEqProofs only [↓reduceIte, ↓pex_seq, pex_nil, pex_ret, pex_cont, pex_asg, pex_own, pex_pop, pex_cop, pex_app, pex_raise, pex_try, pex_frz, pex_if, pex_while, pex_frn, pex_rng, fq_ok, fq_exc, fk_next, fk_cont, fk_ret, fk_exc, fk_ite, fr_nil, pev_con, pev_var, pev_tab, pev_bin, pev_neg, pev_not, pev_bo, pev_cmp, pev_ty, pev_tup, pev_lst, pev_sub, pev_cut, pev_meth, pev_replC, pev_replV, pev_replD, pev_call, pev_len, pev_lenO, pev_lis, pevs_nil, pevs_cons, peo_no, peo_opt, ptest_eq, pbo_or, pbo_and, pbo_one, piter_l, piter_t, piter_s, prange_i, pvar_dat, ptab_some, plenO_dat, plenO_own, pfn_some, pstrV_str, frz1_own, frz1_dat, papp_own, pcop_list, ptry_ok, ptry_exc, ptry_bad, seqk_next, seqk_brk, seqk_cont, seqk_ret, seqk_exc, seqk_bad, seqk_ite, ifk_true, ifk_false, ifk_dec, ifk_not, ifk_exc, ifk_bad, ifk_ite, fink_ret, fink_next, fink_exc, fink_bad, fink_ite, upd_eq, upd_ne, bindPE_nil, bindPE_cons, none0_app, look_hit, look_ne, ok_bind, exc_bind, bad_bind, ite_bind, pcmp_eq_s, pcmp_ne_s, pcmp_eq_i, pcmp_ne_i, pcmp_lt, pcmp_gt, pcmp_ge, pbin_add_s, pbin_add_i, pbin_add_l, pbin_sub, pbin_mod, pbin_fdiv, pbool_b, pint_i, pstr_s, plen_s, plen_l, plen_t, plist_l, ofS_inj, String.reduceEq, String.reduceNe, List.zip_cons_cons, List.zip_nil_left, List.map_cons, List.map_nil, List.nil_append, List.append_nil, List.cons_append, ite_true, ite_false, decide_false, decide_true, Bool.not_true, Bool.not_false, or_true, true_or, or_false, false_or, or_self, and_self, and_true, true_and, and_false, false_and, not_true_eq_false, not_false_eq_true, reduceCtorEq, Bool.false_eq_true, Bool.true_eq_false, ← decide_not, decide_eq_true_eq, tx_inj, tx_len, ne_eq, Classical.not_not, eq13, eq10, eq1310, eq0, List.cons.injEq, C23_G, C23_F]
  unfold f23 B23
  rw [pcall_fin _ _ _ _ rfl]
  have pr : piter (tabd R) = .ok (R.map rowd) := rfl
  simp -implicitDefEqProofs only [↓reduceIte, ↓pex_seq, pex_nil, pex_ret, pex_cont, pex_asg, pex_own, pex_pop, pex_cop, pex_app, pex_raise, pex_try, pex_frz, pex_if, pex_while, pex_frn, pex_rng, fq_ok, fq_exc, fk_next, fk_cont, fk_ret, fk_exc, fk_ite, fr_nil, pev_con, pev_var, pev_tab, pev_bin, pev_neg, pev_not, pev_bo, pev_cmp, pev_ty, pev_tup, pev_lst, pev_sub, pev_cut, pev_meth, pev_replC, pev_replV, pev_replD, pev_call, pev_len, pev_lenO, pev_lis, pevs_nil, pevs_cons, peo_no, peo_opt, ptest_eq, pbo_or, pbo_and, pbo_one, piter_l, piter_t, piter_s, prange_i, pvar_dat, ptab_some, plenO_dat, plenO_own, pfn_some, pstrV_str, frz1_own, frz1_dat, papp_own, pcop_list, ptry_ok, ptry_exc, ptry_bad, seqk_next, seqk_brk, seqk_cont, seqk_ret, seqk_exc, seqk_bad, seqk_ite, ifk_true, ifk_false, ifk_dec, ifk_not, ifk_exc, ifk_bad, ifk_ite, fink_ret, fink_next, fink_exc, fink_bad, fink_ite, upd_eq, upd_ne, bindPE_nil, bindPE_cons, none0_app, look_hit, look_ne, ok_bind, exc_bind, bad_bind, ite_bind, pcmp_eq_s, pcmp_ne_s, pcmp_eq_i, pcmp_ne_i, pcmp_lt, pcmp_gt, pcmp_ge, pbin_add_s, pbin_add_i, pbin_add_l, pbin_sub, pbin_mod, pbin_fdiv, pbool_b, pint_i, pstr_s, plen_s, plen_l, plen_t, plist_l, ofS_inj, String.reduceEq, String.reduceNe, List.zip_cons_cons, List.zip_nil_left, List.map_cons, List.map_nil, List.nil_append, List.append_nil, List.cons_append, ite_true, ite_false, decide_false, decide_true, Bool.not_true, Bool.not_false, or_true, true_or, or_false, false_or, or_self, and_self, and_true, true_and, and_false, false_and, not_true_eq_false, not_false_eq_true, reduceCtorEq, Bool.false_eq_true, Bool.true_eq_false, ← decide_not, decide_eq_true_eq, tx_inj, tx_len, ne_eq, Classical.not_not, eq13, eq10, eq1310, eq0, List.cons.injEq, C23_G, C23_F, pcmp_ne_tab, pr]
  exact K _
noncomputable def gCh : PyData := .tuple [.str (tx [97]), .str (tx [44]), .str (tx [59]), .str (tx [39]), .str (tx [34]), .str (tx [13]), .str (tx [10]), .str (tx [11])]
noncomputable def chs : List Nat := [97, 44, 59, 39, 34, 13, 10, 11]
noncomputable def R15 : QS := (.seq (.frz "row" (.ret (.bin .Add (.var "row") (.lst (.cons (.var "field") .nil))))) .nil)
noncomputable def F15 : QS := (.seq (.asg "k" (.bin .Mod (.var "cell") (.con (.int 11)))) (.seq (.ite (.cmp .Lt (.var "k") (.con (.int 8))) (.seq (.asg "field" (.bin .Add (.var "field") (.sub (.tab "_law_CHARS") (.var "k")))) .nil) (.seq (.app "row" (.var "field")) (.seq (.asg "field" (.con (.str (Str.ofString "")))) .nil))) .nil))
noncomputable def B15 : QS := (.seq (.own "row" .nil) (.seq (.asg "field" (.con (.str (Str.ofString "")))) (.seq (.frn "cell" (.cut (.var "cells") .no (.opt (.var "size"))) F15) R15)))
noncomputable def C15 : PC := mkC [("_law_CHARS", gCh)] []
theorem C15_G : C15.G = look [("_law_CHARS", gCh)] := rfl
theorem C15_F : C15.F = look [] := rfl
theorem C15_fuel : C15.fuel = LIM := rfl
noncomputable def f15 : List PyData → Out PyData := pcall C15 [Str.ofString "size", Str.ofString "cells"] B15
theorem ch_at {k : Nat} (h : k < 8) : ∃ c, pitem gCh (k : Int) = .ok (.str (tx [c])) := by
  have h' : k < chs.length := h
  have e : gCh = .tuple (chs.map ch) := rfl
  exact ⟨chs[k], by rw [e]; exact pitem_tuple _ k _ (by rw [List.getElem?_map, List.getElem?_eq_getElem h', Option.map_some]; rfl) (by omega)⟩
theorem loop15 : ∀ (xs : List Int) (rs : List (List Nat)) (f : List Nat) (ρ : PE), ρ (Str.ofString "row") = some (.own (rs.map txd)) → ρ (Str.ofString "field") = some (.dat (.str (tx f))) → rs.length + xs.length ≤ 4 → f.length + xs.length ≤ 4 → (∀ g ∈ rs, g.length ≤ 4) →
    ∃ (ρ' : PE) (rs' : List (List Nat)) (f' : List Nat), fr C15 ["cell"] F15 (xs.map .int) ρ = .ok (.next, ρ') ∧ ρ' (Str.ofString "row") = some (.own (rs'.map txd)) ∧ ρ' (Str.ofString "field") = some (.dat (.str (tx f'))) ∧ rs'.length ≤ 4 ∧ f'.length ≤ 4 ∧ ∀ g ∈ rs', g.length ≤ 4
  | [], rs, f, ρ, h1, h2, h3, h4, h5 => ⟨ρ, rs, f, rfl, h1, h2, h3, h4, h5⟩
  | x :: xs, rs, f, ρ, h1, h2, h3, h4, h5 => by
    have hL : LIM = 16777216 := rfl
    rw [List.length_cons] at h3 h4
    obtain ⟨j, hj, ej⟩ := fmod_small x 11 (by decide)
    have ej' : x.fmod 11 = (j : Int) := ej
    have n11 : ((11 : Int) = 0) = False := eq_false (by decide)
    rw [List.map_cons, fr_name]
    by_cases hb : j < 8
    · obtain ⟨c, hc⟩ := ch_at hb
      have g8 : ((j : Int) < 8) = True := eq_true (by omega)
      have a1 : (f.length + [c].length ≤ LIM) = True := eq_true (by rw [List.length_singleton]; omega)
      obtain ⟨ρ', rs', f', ih, k⟩ := loop15 xs rs (f ++ [c]) (upd (upd (upd ρ (Str.ofString "cell") (.dat (.int x))) (Str.ofString "k") (.dat (.int (j : Int)))) (Str.ofString "field") (.dat (.str (tx (f ++ [c])))))
        (by simp -implicitDefEqProofs only [upd_eq, upd_ne, String.reduceEq, not_false_eq_true, none0_app, h1]) (by simp -implicitDefEqProofs only [upd_eq, upd_ne, String.reduceEq, not_false_eq_true, none0_app]) (by omega) (by rw [List.length_append, List.length_singleton]; omega) h5
      refine ⟨ρ', rs', f', ?_, k⟩
      rw [← ih]
      unfold F15
      simp -implicitDefEqProofs only [↓reduceIte, ↓pex_seq, pex_nil, pex_ret, pex_cont, pex_asg, pex_own, pex_pop, pex_cop, pex_app, pex_raise, pex_try, pex_frz, pex_if, pex_while, pex_frn, pex_rng, fq_ok, fq_exc, fk_next, fk_cont, fk_ret, fk_exc, fk_ite, fr_nil, pev_con, pev_var, pev_tab, pev_bin, pev_neg, pev_not, pev_bo, pev_cmp, pev_ty, pev_tup, pev_lst, pev_sub, pev_cut, pev_meth, pev_replC, pev_replV, pev_replD, pev_call, pev_len, pev_lenO, pev_lis, pevs_nil, pevs_cons, peo_no, peo_opt, ptest_eq, pbo_or, pbo_and, pbo_one, piter_l, piter_t, piter_s, prange_i, pvar_dat, ptab_some, plenO_dat, plenO_own, pfn_some, pstrV_str, frz1_own, frz1_dat, papp_own, pcop_list, ptry_ok, ptry_exc, ptry_bad, seqk_next, seqk_brk, seqk_cont, seqk_ret, seqk_exc, seqk_bad, seqk_ite, ifk_true, ifk_false, ifk_dec, ifk_not, ifk_exc, ifk_bad, ifk_ite, fink_ret, fink_next, fink_exc, fink_bad, fink_ite, upd_eq, upd_ne, bindPE_nil, bindPE_cons, none0_app, look_hit, look_ne, ok_bind, exc_bind, bad_bind, ite_bind, pcmp_eq_s, pcmp_ne_s, pcmp_eq_i, pcmp_ne_i, pcmp_lt, pcmp_gt, pcmp_ge, pbin_add_s, pbin_add_i, pbin_add_l, pbin_sub, pbin_mod, pbin_fdiv, pbool_b, pint_i, pstr_s, plen_s, plen_l, plen_t, plist_l, ofS_inj, String.reduceEq, String.reduceNe, List.zip_cons_cons, List.zip_nil_left, List.map_cons, List.map_nil, List.nil_append, List.append_nil, List.cons_append, ite_true, ite_false, decide_false, decide_true, Bool.not_true, Bool.not_false, or_true, true_or, or_false, false_or, or_self, and_self, and_true, true_and, and_false, false_and, not_true_eq_false, not_false_eq_true, reduceCtorEq, Bool.false_eq_true, Bool.true_eq_false, ← decide_not, decide_eq_true_eq, tx_inj, tx_len, ne_eq, Classical.not_not, eq13, eq10, eq1310, eq0, List.cons.injEq, C15_G, C15_F, h1, h2, n11, ej', g8, hc, a1, ↓tx_app]
    · have g8 : ((j : Int) < 8) = False := eq_false (by omega)
      have a1 : ((rs.map txd).length < LIM) = True := eq_true (by rw [List.length_map]; omega)
      obtain ⟨ρ', rs', f', ih, k⟩ := loop15 xs (rs ++ [f]) [] (upd (upd (upd (upd ρ (Str.ofString "cell") (.dat (.int x))) (Str.ofString "k") (.dat (.int (j : Int)))) (Str.ofString "row") (.own (rs.map txd ++ [.str (tx f)]))) (Str.ofString "field") (.dat (.str (tx []))))
        (by simp -implicitDefEqProofs only [upd_eq, upd_ne, String.reduceEq, not_false_eq_true, none0_app, List.map_append, List.map_cons, List.map_nil, txd]) (by simp -implicitDefEqProofs only [upd_eq, upd_ne, String.reduceEq, not_false_eq_true, none0_app]) (by rw [List.length_append, List.length_singleton]; omega) (by rw [List.length_nil]; omega) (by
          intro g hg
          rcases List.mem_append.mp hg with hg | hg
          · exact h5 g hg
          · rw [List.mem_singleton.mp hg]; omega)
      refine ⟨ρ', rs', f', ?_, k⟩
      rw [← ih]
      unfold F15
      simp -implicitDefEqProofs only [↓reduceIte, ↓pex_seq, pex_nil, pex_ret, pex_cont, pex_asg, pex_own, pex_pop, pex_cop, pex_app, pex_raise, pex_try, pex_frz, pex_if, pex_while, pex_frn, pex_rng, fq_ok, fq_exc, fk_next, fk_cont, fk_ret, fk_exc, fk_ite, fr_nil, pev_con, pev_var, pev_tab, pev_bin, pev_neg, pev_not, pev_bo, pev_cmp, pev_ty, pev_tup, pev_lst, pev_sub, pev_cut, pev_meth, pev_replC, pev_replV, pev_replD, pev_call, pev_len, pev_lenO, pev_lis, pevs_nil, pevs_cons, peo_no, peo_opt, ptest_eq, pbo_or, pbo_and, pbo_one, piter_l, piter_t, piter_s, prange_i, pvar_dat, ptab_some, plenO_dat, plenO_own, pfn_some, pstrV_str, frz1_own, frz1_dat, papp_own, pcop_list, ptry_ok, ptry_exc, ptry_bad, seqk_next, seqk_brk, seqk_cont, seqk_ret, seqk_exc, seqk_bad, seqk_ite, ifk_true, ifk_false, ifk_dec, ifk_not, ifk_exc, ifk_bad, ifk_ite, fink_ret, fink_next, fink_exc, fink_bad, fink_ite, upd_eq, upd_ne, bindPE_nil, bindPE_cons, none0_app, look_hit, look_ne, ok_bind, exc_bind, bad_bind, ite_bind, pcmp_eq_s, pcmp_ne_s, pcmp_eq_i, pcmp_ne_i, pcmp_lt, pcmp_gt, pcmp_ge, pbin_add_s, pbin_add_i, pbin_add_l, pbin_sub, pbin_mod, pbin_fdiv, pbool_b, pint_i, pstr_s, plen_s, plen_l, plen_t, plist_l, ofS_inj, String.reduceEq, String.reduceNe, List.zip_cons_cons, List.zip_nil_left, List.map_cons, List.map_nil, List.nil_append, List.append_nil, List.cons_append, ite_true, ite_false, decide_false, decide_true, Bool.not_true, Bool.not_false, or_true, true_or, or_false, false_or, or_self, and_self, and_true, true_and, and_false, false_and, not_true_eq_false, not_false_eq_true, reduceCtorEq, Bool.false_eq_true, Bool.true_eq_false, ← decide_not, decide_eq_true_eq, tx_inj, tx_len, ne_eq, Classical.not_not, eq13, eq10, eq1310, eq0, List.cons.injEq, C15_G, C15_F, h1, h2, n11, ej', g8, a1, s0]
theorem f15_eq (k : Nat) (a b c e : Int) (hk : k < 5) : ∃ r, f15 [.int (k : Int), .tuple [.int a, .int b, .int c, .int e]] = .ok (rowd r) ∧ Rw r := by
  have hL : LIM = 16777216 := rfl
  have K : ∀ ρ, ρ (Str.ofString "row") = some (.own ([] : List PyData)) → ρ (Str.ofString "field") = some (.dat (.str (tx []))) → ∃ r, fink (seqk C15 R15 (fr C15 ["cell"] F15 (([a, b, c, e].take k).map .int) ρ)) = .ok (rowd r) ∧ Rw r := by
    intro ρ h1 h2
    have l4 : ([a, b, c, e].take k).length ≤ 4 := by rw [List.length_take]; exact Nat.min_le_right _ _
    obtain ⟨ρ', rs, f, h, k1, k2, k3, k4, k5⟩ := loop15 ([a, b, c, e].take k) [] [] ρ h1 h2 (by rw [List.length_nil]; omega) (by rw [List.length_nil]; omega) nofun
    refine ⟨rs ++ [f], ?_, by simp, by rw [List.length_append, List.length_singleton]; omega, ?_⟩
    · have a1 : ((rs.map txd).length + [PyData.str (tx f)].length ≤ LIM) = True := eq_true (by rw [List.length_map, List.length_singleton]; omega)
      have e1 : rowd (rs ++ [f]) = .list (rs.map txd ++ [.str (tx f)]) := by unfold rowd; rw [List.map_append]; rfl
      rw [h, seqk_next, e1]
      unfold R15
      simp -implicitDefEqProofs only [↓reduceIte, ↓pex_seq, pex_nil, pex_ret, pex_cont, pex_asg, pex_own, pex_pop, pex_cop, pex_app, pex_raise, pex_try, pex_frz, pex_if, pex_while, pex_frn, pex_rng, fq_ok, fq_exc, fk_next, fk_cont, fk_ret, fk_exc, fk_ite, fr_nil, pev_con, pev_var, pev_tab, pev_bin, pev_neg, pev_not, pev_bo, pev_cmp, pev_ty, pev_tup, pev_lst, pev_sub, pev_cut, pev_meth, pev_replC, pev_replV, pev_replD, pev_call, pev_len, pev_lenO, pev_lis, pevs_nil, pevs_cons, peo_no, peo_opt, ptest_eq, pbo_or, pbo_and, pbo_one, piter_l, piter_t, piter_s, prange_i, pvar_dat, ptab_some, plenO_dat, plenO_own, pfn_some, pstrV_str, frz1_own, frz1_dat, papp_own, pcop_list, ptry_ok, ptry_exc, ptry_bad, seqk_next, seqk_brk, seqk_cont, seqk_ret, seqk_exc, seqk_bad, seqk_ite, ifk_true, ifk_false, ifk_dec, ifk_not, ifk_exc, ifk_bad, ifk_ite, fink_ret, fink_next, fink_exc, fink_bad, fink_ite, upd_eq, upd_ne, bindPE_nil, bindPE_cons, none0_app, look_hit, look_ne, ok_bind, exc_bind, bad_bind, ite_bind, pcmp_eq_s, pcmp_ne_s, pcmp_eq_i, pcmp_ne_i, pcmp_lt, pcmp_gt, pcmp_ge, pbin_add_s, pbin_add_i, pbin_add_l, pbin_sub, pbin_mod, pbin_fdiv, pbool_b, pint_i, pstr_s, plen_s, plen_l, plen_t, plist_l, ofS_inj, String.reduceEq, String.reduceNe, List.zip_cons_cons, List.zip_nil_left, List.map_cons, List.map_nil, List.nil_append, List.append_nil, List.cons_append, ite_true, ite_false, decide_false, decide_true, Bool.not_true, Bool.not_false, or_true, true_or, or_false, false_or, or_self, and_self, and_true, true_and, and_false, false_and, not_true_eq_false, not_false_eq_true, reduceCtorEq, Bool.false_eq_true, Bool.true_eq_false, ← decide_not, decide_eq_true_eq, tx_inj, tx_len, ne_eq, Classical.not_not, eq13, eq10, eq1310, eq0, List.cons.injEq, C15_G, C15_F, k1, k2, one_le, a1]
    · intro g hg
      rcases List.mem_append.mp hg with hg | hg
      · exact k5 g hg
      · rw [List.mem_singleton.mp hg]; exact k4
  have pc : pcut (.tuple [.int a, .int b, .int c, .int e]) none (some (k : Int)) = .ok (.tuple (([a, b, c, e].take k).map .int)) := by
    show (if 4 ≤ LIM ∧ 0 ≤ (k : Int) ∧ (k : Int) ≤ ((4 : Nat) : Int) then Out.ok (PyData.tuple ([PyData.int a, .int b, .int c, .int e].take (k : Int).toNat)) else .bad) = _
    rw [if_pos ⟨by decide, by omega, by omega⟩, Int.toNat_natCast, List.map_take]; rfl
  unfold f15 B15
  rw [pcall_fin _ _ _ _ rfl]
  simp -implicitDefEqProofs only [↓reduceIte, ↓pex_seq, pex_nil, pex_ret, pex_cont, pex_asg, pex_own, pex_pop, pex_cop, pex_app, pex_raise, pex_try, pex_frz, pex_if, pex_while, pex_frn, pex_rng, fq_ok, fq_exc, fk_next, fk_cont, fk_ret, fk_exc, fk_ite, fr_nil, pev_con, pev_var, pev_tab, pev_bin, pev_neg, pev_not, pev_bo, pev_cmp, pev_ty, pev_tup, pev_lst, pev_sub, pev_cut, pev_meth, pev_replC, pev_replV, pev_replD, pev_call, pev_len, pev_lenO, pev_lis, pevs_nil, pevs_cons, peo_no, peo_opt, ptest_eq, pbo_or, pbo_and, pbo_one, piter_l, piter_t, piter_s, prange_i, pvar_dat, ptab_some, plenO_dat, plenO_own, pfn_some, pstrV_str, frz1_own, frz1_dat, papp_own, pcop_list, ptry_ok, ptry_exc, ptry_bad, seqk_next, seqk_brk, seqk_cont, seqk_ret, seqk_exc, seqk_bad, seqk_ite, ifk_true, ifk_false, ifk_dec, ifk_not, ifk_exc, ifk_bad, ifk_ite, fink_ret, fink_next, fink_exc, fink_bad, fink_ite, upd_eq, upd_ne, bindPE_nil, bindPE_cons, none0_app, look_hit, look_ne, ok_bind, exc_bind, bad_bind, ite_bind, pcmp_eq_s, pcmp_ne_s, pcmp_eq_i, pcmp_ne_i, pcmp_lt, pcmp_gt, pcmp_ge, pbin_add_s, pbin_add_i, pbin_add_l, pbin_sub, pbin_mod, pbin_fdiv, pbool_b, pint_i, pstr_s, plen_s, plen_l, plen_t, plist_l, ofS_inj, String.reduceEq, String.reduceNe, List.zip_cons_cons, List.zip_nil_left, List.map_cons, List.map_nil, List.nil_append, List.append_nil, List.cons_append, ite_true, ite_false, decide_false, decide_true, Bool.not_true, Bool.not_false, or_true, true_or, or_false, false_or, or_self, and_self, and_true, true_and, and_false, false_and, not_true_eq_false, not_false_eq_true, reduceCtorEq, Bool.false_eq_true, Bool.true_eq_false, ← decide_not, decide_eq_true_eq, tx_inj, tx_len, ne_eq, Classical.not_not, eq13, eq10, eq1310, eq0, List.cons.injEq, C15_G, C15_F, nil_le, pc, s0]
  exact K _ (by simp -implicitDefEqProofs only [upd_eq, upd_ne, String.reduceEq, not_false_eq_true, none0_app]) (by simp -implicitDefEqProofs only [upd_eq, upd_ne, String.reduceEq, not_false_eq_true, none0_app])
end Mine

open PySem
set_option maxRecDepth 100000
set_option maxHeartbeats 4000000
set_option linter.unusedSimpArgs false
namespace Mine
noncomputable def gGood : PyData := .tuple [.tuple [.str (tx [44]), .str (tx [34]), .str (tx [13, 10])], .tuple [.str (tx [59]), .str (tx [39]), .str (tx [10])], .tuple [.str (tx [39]), .str (tx [44]), .str (tx [13])], .tuple [.str (tx [34]), .str (tx [59]), .str (tx [10])], .tuple [.str (tx [97]), .str (tx [34]), .str (tx [13])], .tuple [.str (tx [59]), .str (tx [97]), .str (tx [13, 10])]]
noncomputable def gEnds : PyData := .tuple [.str (tx [13]), .str (tx [10]), .str (tx [13, 10])]
noncomputable def gBad : PyData := .tuple [.tuple [.str (tx [44]), .str (tx [34])], .tuple [.str (tx [44]), .str (tx [34]), .str (tx [10]), .str (tx [10])], .tuple [.str (tx []), .str (tx [34]), .str (tx [10])], .tuple [.str (tx [44, 44]), .str (tx [34]), .str (tx [10])], .tuple [.str (tx [44]), .str (tx []), .str (tx [10])], .tuple [.str (tx [44]), .str (tx [39, 39]), .str (tx [10])], .tuple [.str (tx [44]), .str (tx [44]), .str (tx [13])], .tuple [.str (tx [13]), .str (tx [34]), .str (tx [10])], .tuple [.str (tx [10]), .str (tx [34]), .str (tx [13])], .tuple [.str (tx [44]), .str (tx [13]), .str (tx [10])], .tuple [.str (tx [44]), .str (tx [10]), .str (tx [13, 10])], .tuple [.str (tx [44]), .str (tx [34]), .str (tx [10, 13])]]
noncomputable def dias : List (Nat × Nat × List Nat) := [(44, 34, [13, 10]), (59, 39, [10]), (39, 44, [13]), (34, 59, [10]), (97, 34, [13]), (59, 97, [13, 10])]
noncomputable def ends : List (List Nat) := [[13], [10], [13, 10]]
noncomputable def bads : List (List (List Nat)) := [[[44], [34]], [[44], [34], [10], [10]], [[], [34], [10]], [[44, 44], [34], [10]], [[44], [], [10]], [[44], [39, 39], [10]], [[44], [44], [13]], [[13], [34], [10]], [[10], [34], [13]], [[44], [13], [10]], [[44], [10], [13, 10]], [[44], [34], [10, 13]]]
structure Gd (d q : Nat) (nl : List Nat) : Prop where
  D : Dia d q
  hn : IsNl nl
  ok : okDia [[d], [q], nl] = true
  l2 : nl.length ≤ 2
  hx : q ≠ 120 ∧ d ≠ 120
theorem dias_ok : ∀ x ∈ dias, Gd x.1 x.2.1 x.2.2 := by
  have mk : ∀ (d q : Nat) (nl : List Nat), (d ≠ q ∧ d ≠ 13 ∧ d ≠ 10 ∧ q ≠ 13 ∧ q ≠ 10) → (nl = [10] ∨ nl = [13] ∨ nl = [13, 10]) → okDia [[d], [q], nl] = true → nl.length ≤ 2 → (q ≠ 120 ∧ d ≠ 120) → Gd d q nl :=
    fun d q nl h1 h2 h3 h4 h5 => ⟨⟨h1.1, h1.2.1, h1.2.2.1, h1.2.2.2.1, h1.2.2.2.2⟩, h2, h3, h4, h5⟩
  simp only [dias, List.forall_mem_cons]
  exact ⟨mk _ _ _ (by decide) (by decide) rfl (by decide) (by decide), mk _ _ _ (by decide) (by decide) rfl (by decide) (by decide), mk _ _ _ (by decide) (by decide) rfl (by decide) (by decide), mk _ _ _ (by decide) (by decide) rfl (by decide) (by decide), mk _ _ _ (by decide) (by decide) rfl (by decide) (by decide), mk _ _ _ (by decide) (by decide) rfl (by decide) (by decide), fun _ h => nomatch h⟩
theorem dia_at {k : Nat} (h : k < 6) : ∃ d q nl, pitem gGood (k : Int) = .ok (D3 d q nl) ∧ Gd d q nl := by
  have h' : k < dias.length := h
  have e : gGood = .tuple (dias.map fun x => D3 x.1 x.2.1 x.2.2) := rfl
  refine ⟨dias[k].1, dias[k].2.1, dias[k].2.2, ?_, dias_ok _ (List.getElem_mem h')⟩
  rw [e]
  exact pitem_tuple _ k _ (by rw [List.getElem?_map, List.getElem?_eq_getElem h', Option.map_some]) (by omega)
theorem end_at {k : Nat} (h : k < 3) : ∃ e, pitem gEnds (k : Int) = .ok (.str (tx e)) ∧ IsNl e := by
  have h' : k < ends.length := h
  have e : gEnds = .tuple (ends.map txd) := rfl
  have ok : ∀ e ∈ ends, IsNl e := by
    simp only [ends, List.forall_mem_cons]
    exact ⟨.inr (.inl rfl), .inl rfl, .inr (.inr rfl), fun _ h => nomatch h⟩
  refine ⟨ends[k], ?_, ok _ (List.getElem_mem h')⟩
  rw [e]
  exact pitem_tuple _ k _ (by rw [List.getElem?_map, List.getElem?_eq_getElem h', Option.map_some]; rfl) (by omega)
noncomputable def triD (l : List (List Nat)) : PyData := .tuple (l.map txd)
theorem bads_all : ∀ l ∈ bads, f2 [triD l] = .exc := by
  have sh : ∀ l : List (List Nat), l.length ≠ 3 → l.length ≤ 9 → f2 [triD l] = .exc := fun l h h2 => f2_short _ (by rw [List.length_map]; exact h) (by rw [List.length_map]; exact Nat.le_trans h2 (by decide))
  have tr : ∀ a b c : List Nat, a.length ≤ 9 → b.length ≤ 9 → okDia [a, b, c] = false → f2 [triD [a, b, c]] = .exc := by
    intro a b c h1 h2 h
    have := f2_eq a b c (Nat.le_trans h1 (by decide)) (Nat.le_trans h2 (by decide))
    rw [h] at this
    exact this
  simp only [bads, List.forall_mem_cons]
  exact ⟨sh _ (by decide) (by decide), sh _ (by decide) (by decide), tr _ _ _ (by decide) (by decide) rfl, tr _ _ _ (by decide) (by decide) rfl, tr _ _ _ (by decide) (by decide) rfl, tr _ _ _ (by decide) (by decide) rfl, tr _ _ _ (by decide) (by decide) rfl, tr _ _ _ (by decide) (by decide) rfl, tr _ _ _ (by decide) (by decide) rfl, tr _ _ _ (by decide) (by decide) rfl, tr _ _ _ (by decide) (by decide) rfl, tr _ _ _ (by decide) (by decide) rfl, fun _ h => nomatch h⟩
theorem bad_at {k : Nat} (h : k < 12) : ∃ D, pitem gBad (k : Int) = .ok D ∧ f2 [D] = .exc := by
  have h' : k < bads.length := h
  have e : gBad = .tuple (bads.map triD) := rfl
  refine ⟨triD bads[k], ?_, bads_all _ (List.getElem_mem h')⟩
  rw [e]
  exact pitem_tuple _ k _ (by rw [List.getElem?_map, List.getElem?_eq_getElem h', Option.map_some]) (by omega)
theorem pr_0 (a b : PyData) : pitem (.tuple [a, b]) 0 = .ok a := pitem_tuple _ 0 _ rfl (by decide)
theorem pr_1 (a b : PyData) : pitem (.tuple [a, b]) 1 = .ok b := pitem_tuple _ 1 _ rfl (by decide)
/-- a pair of a bool and a datum, told and due -/
theorem pcmp_pair (b : Bool) (x : PyData) (h : PyData.eqv x x = true) (hd : x.depth ≤ 15) : pcmp .NotEq (.tuple [.bool b, x]) (.tuple [.bool b, x]) = .ok (.bool false) := by
  have e : PyData.eqv (.tuple [.bool b, x]) (.tuple [.bool b, x]) = true := by
    show (b == b && (PyData.eqv x x && true)) = true
    rw [h, beq_self_eq_true]; rfl
  have hd2 : (PyData.tuple [.bool b, x]).depth ≤ 16 := by simp only [PyData.depth, PyData.depthAll]; omega
  show (if _ ∧ _ then Out.ok (PyData.bool (!PyData.eqv _ _)) else .bad) = _
  rw [if_pos ⟨hd2, hd2⟩, e]; rfl
theorem pair_str (x : Str) : pcmp .NotEq (.tuple [.bool false, .str x]) (.tuple [.bool false, .str x]) = .ok (.bool false) := pcmp_pair _ _ (beq_self_eq_true x) (by rw [PyData.depth]; omega)
theorem pair_none : pcmp .NotEq (.tuple [.bool true, .none]) (.tuple [.bool true, .none]) = .ok (.bool false) := pcmp_pair _ _ rfl (by rw [PyData.depth]; omega)
theorem pcmp_lone (r : List (List Nat)) : pcmp .Eq (rowd r) (.list [.str (Str.ofString "")]) = .ok (.bool (decide (r = [[]]))) := by
  have hd : (rowd r).depth ≤ 16 := by unfold rowd; rw [PyData.depth, txd_depth]; decide
  have hd2 : (PyData.list [.str (Str.ofString "")]).depth ≤ 16 := by simp only [PyData.depth, PyData.depthAll]; decide
  show (if _ ∧ _ then Out.ok (PyData.bool (PyData.eqv _ _)) else .bad) = _
  rw [if_pos ⟨hd, hd2⟩, s0]
  congr 2
  cases r with
  | nil => rfl
  | cons f r =>
    cases r with
    | nil =>
      show ((tx f == tx []) && true) = _
      rw [Bool.and_true, tx_eq, decide_eq_decide]
      exact ⟨fun e => by rw [e], fun e => (List.cons.inj e).1⟩
    | cons g r =>
      show ((tx f == tx []) && false) = _
      rw [Bool.and_false]
      exact (decide_eq_false (fun e => absurd (List.cons.inj e).2 (List.cons_ne_nil _ _))).symm
theorem pbin_row (A B : List (List Nat)) (h : A.length + B.length ≤ LIM) : pbin .Add (rowd A) (rowd B) = .ok (rowd (A ++ B)) := by
  unfold rowd
  rw [pbin_add_l, List.length_map, List.length_map, if_pos h, List.map_append]
theorem pbin_tab (A B : Tab) (h : A.length + B.length ≤ LIM) : pbin .Add (tabd A) (tabd B) = .ok (tabd (A ++ B)) := by
  unfold tabd
  rw [pbin_add_l, List.length_map, List.length_map, if_pos h, List.map_append]
theorem clip_min (n k : Nat) : clipAt n (k : Int) = min k n := by
  unfold clipAt
  split <;> omega
theorem pcut_to (ds : List PyData) (k : Nat) (h : ds.length ≤ LIM) : pcut (.list ds) none (some (k : Int)) = .ok (.list (ds.take k)) := by
  show (if ds.length ≤ LIM then Out.ok (PyData.list ((ds.drop 0).take (clipAt ds.length (k : Int) - 0))) else .bad) = _
  rw [if_pos h, clip_min, List.drop_zero, Nat.sub_zero]
  congr 2
  rw [List.take_eq_take_iff]
  exact Nat.min_assoc .. |>.trans (by rw [Nat.min_self])
theorem pcut_from (ds : List PyData) (k : Nat) (h : ds.length ≤ LIM) : pcut (.list ds) (some (k : Int)) none = .ok (.list (ds.drop k)) := by
  show (if ds.length ≤ LIM then Out.ok (PyData.list ((ds.drop (clipAt ds.length (k : Int))).take (ds.length - clipAt ds.length (k : Int)))) else .bad) = _
  rw [if_pos h, clip_min, List.take_of_length_le (by rw [List.length_drop]; exact Nat.le_refl _)]
  congr 2
  rcases Nat.le_total k ds.length with h | h
  · rw [Nat.min_eq_left h]
  · rw [Nat.min_eq_right h, List.drop_of_length_le (Nat.le_refl _), List.drop_of_length_le h]
theorem pcut_tt (T : Tab) (k : Nat) (h : T.length ≤ LIM) : pcut (tabd T) none (some (k : Int)) = .ok (tabd (T.take k)) := by unfold tabd; rw [pcut_to _ _ (by rw [List.length_map]; exact h), List.map_take]
theorem pcut_tf (T : Tab) (k : Nat) (h : T.length ≤ LIM) : pcut (tabd T) (some (k : Int)) none = .ok (tabd (T.drop k)) := by unfold tabd; rw [pcut_from _ _ (by rw [List.length_map]; exact h), List.map_drop]
theorem pcut_rt (T : List (List Nat)) (k : Nat) (h : T.length ≤ LIM) : pcut (rowd T) none (some (k : Int)) = .ok (rowd (T.take k)) := by unfold rowd; rw [pcut_to _ _ (by rw [List.length_map]; exact h), List.map_take]
theorem pcut_rf (T : List (List Nat)) (k : Nat) (h : T.length ≤ LIM) : pcut (rowd T) (some (k : Int)) none = .ok (rowd (T.drop k)) := by unfold rowd; rw [pcut_from _ _ (by rw [List.length_map]; exact h), List.map_drop]
theorem plen_row (r : List (List Nat)) (h : r.length ≤ LIM) : plen (rowd r) = .ok (.int r.length) := by unfold rowd; rw [plen_l, List.length_map, if_pos h]
theorem plen_tab (r : Tab) (h : r.length ≤ LIM) : plen (tabd r) = .ok (.int r.length) := by unfold tabd; rw [plen_l, List.length_map, if_pos h]
theorem pcop_tab {ρ : PE} (x : Str) (T : Tab) (h : T.length ≤ LIM) (h2 : ∀ r ∈ T, r.length ≤ LIM) : pcop ρ x (tabd T) = .ok (.next, upd ρ x (.dat (tabd T))) := by
  show (if (T.map rowd).length ≤ LIM ∧ (T.map rowd).all isShortL = true then Out.ok (Fl.next, upd ρ x (.dat (tabd T))) else .bad) = _
  have ha : (T.map rowd).all isShortL = true := List.all_eq_true.mpr fun y hy => by
    obtain ⟨r, hr, rfl⟩ := List.mem_map.mp hy
    exact decide_eq_true (by rw [List.length_map]; exact h2 r hr)
  rw [if_pos ⟨by rw [List.length_map]; exact h, ha⟩]
theorem pex_zip {C : PC} {ρ : PE} {q : QE} {b : QS} (x y : String) : pex C (.zip x y q b) ρ = fq C [x, y] b ρ ((pevs C ρ q).bind pzip) := by
  show (pevs C ρ q).bind _ = _
  cases pevs C ρ q <;> rfl
theorem pzip_tab (T : Tab) (es : List PyData) (h : T.length ≤ es.length) : pzip [tabd T, .tuple es] = .ok (zipD (T.map rowd) es) := by
  show (if (T.map rowd).length ≤ es.length then Out.ok (zipD (T.map rowd) es) else .bad) = _
  rw [List.length_map, if_pos h]
theorem fr_pair {C : PC} {ρ : PE} {b : QS} {ds : List PyData} (x y : String) (a c : PyData) : fr C [x, y] b (.tuple [a, c] :: ds) ρ = fk C [x, y] b ds (pex C b (upd (upd ρ (Str.ofString x) (.dat a)) (Str.ofString y) (.dat c))) := rfl
noncomputable def E24 : QS := (.seq (.asg "at" (.bin .Mod (.sub (.var "script") (.con (.int 5))) (.bin .Add (.len (.var "table")) (.con (.int 1))))) (.seq (.asg "holed" (.bin .Add (.bin .Add (.cut (.var "table") .no (.opt (.var "at"))) (.lst (.cons (.lst .nil) .nil))) (.cut (.var "table") (.opt (.var "at")) .no))) (.seq (.ite (.cmp .NotEq (.call "_law_write" (.cons (.var "holed") (.cons (.var "target") .nil))) (.tup (.cons (.con (.bool true)) (.cons (.con .none) .nil)))) (.seq (.ret (.con (.bool false))) .nil) .nil) (.seq (.ite (.cmp .NotEq (.var "holed") (.bin .Add (.bin .Add (.cut (.var "kept") .no (.opt (.var "at"))) (.lst (.cons (.lst .nil) .nil))) (.cut (.var "kept") (.opt (.var "at")) .no))) (.seq (.ret (.con (.bool false))) .nil) .nil) (.seq (.ite (.cmp .NotEq (.var "table") (.var "kept")) (.seq (.ret (.con (.bool false))) .nil) .nil) (.seq (.ret (.con (.bool true))) .nil))))))
noncomputable def D24 : QS := (.seq (.asg "cut" (.bin .Mod (.sub (.var "script") (.con (.int 5))) (.bin .Add (.len (.var "pieces")) (.con (.int 1))))) (.seq (.asg "damaged" (.call "_law_damage" (.cons (.bin .Mod (.sub (.var "script") (.con (.int 4))) (.con (.int 3))) (.cons (.meth .join (.con (.str (Str.ofString ""))) (.cut (.var "pieces") .no (.opt (.var "cut")))) (.cons (.meth .join (.con (.str (Str.ofString ""))) (.cut (.var "pieces") (.opt (.var "cut")) .no)) (.cons (.sub (.var "source") (.con (.int 1))) .nil)))))) (.seq (.ite (.cmp .NotEq (.call "_law_read" (.cons (.var "damaged") (.cons (.var "source") .nil))) (.tup (.cons (.con (.bool true)) (.cons (.con .none) .nil)))) (.seq (.ret (.con (.bool false))) .nil) .nil) E24)))
noncomputable def M24 : QS := (.seq (.asg "spoilt" (.sub (.tab "_law_BAD") (.bin .Mod (.sub (.var "script") (.con (.int 3))) (.con (.int 12))))) (.seq (.ite (.cmp .NotEq (.call "_law_read" (.cons (.var "text") (.cons (.var "spoilt") .nil))) (.tup (.cons (.con (.bool true)) (.cons (.con .none) .nil)))) (.seq (.ret (.con (.bool false))) .nil) .nil) (.seq (.ite (.cmp .NotEq (.call "_law_write" (.cons (.var "table") (.cons (.var "spoilt") .nil))) (.tup (.cons (.con (.bool true)) (.cons (.con .none) .nil)))) (.seq (.ret (.con (.bool false))) .nil) .nil) (.seq (.ite (.cmp .NotEq (.call "_law_field" (.cons (.var "text") (.cons (.var "spoilt") .nil))) (.tup (.cons (.con (.bool true)) (.cons (.con .none) .nil)))) (.seq (.ret (.con (.bool false))) .nil) .nil) D24))))
noncomputable def H24 : QS := (.seq (.ite (.cmp .NotEq (.call "_law_field" (.cons (.var "field") (.cons (.var "target") .nil))) (.tup (.cons (.con (.bool false)) (.cons (.sub (.call "_law_pieces" (.cons (.lst (.cons (.var "field") .nil)) (.cons (.con (.bool false)) (.cons (.con (.str (Str.ofString ""))) (.cons (.var "target") .nil))))) (.con (.int 0))) .nil)))) (.seq (.ret (.con (.bool false))) .nil) .nil) .nil)
noncomputable def G24 : QS := (.seq (.frn "field" (.var "row") H24) .nil)
noncomputable def L24 : QS := (.seq (.frn "row" (.var "kept") G24) M24)
noncomputable def N24c : QS := (.seq (.asg "second" (.call "_law_read" (.cons (.sub (.var "there") (.con (.int 1))) (.cons (.var "target") .nil)))) (.seq (.ite (.bo .Or (.cons (.sub (.var "second") (.con (.int 0))) (.cons (.not (.call "_law_same" (.cons (.sub (.var "second") (.con (.int 1))) (.cons (.var "kept") .nil)))) .nil))) (.seq (.ret (.con (.bool false))) .nil) .nil) (.seq (.ite (.cmp .NotEq (.call "_law_write" (.cons (.sub (.var "second") (.con (.int 1))) (.cons (.var "source") .nil))) (.tup (.cons (.con (.bool false)) (.cons (.call "_law_text" (.cons (.var "kept") (.cons (.var "source") .nil))) .nil)))) (.seq (.ret (.con (.bool false))) .nil) .nil) (.seq (.ite (.cmp .NotEq (.sub (.var "second") (.con (.int 1))) (.var "kept")) (.seq (.ret (.con (.bool false))) .nil) .nil) L24))))
noncomputable def N24b : QS := (.seq (.asg "there" (.call "_law_write" (.cons (.sub (.var "first") (.con (.int 1))) (.cons (.var "target") .nil)))) (.seq (.ite (.cmp .NotEq (.var "there") (.tup (.cons (.con (.bool false)) (.cons (.call "_law_text" (.cons (.var "kept") (.cons (.var "target") .nil))) .nil)))) (.seq (.ret (.con (.bool false))) .nil) .nil) (.seq (.ite (.cmp .NotEq (.sub (.var "first") (.con (.int 1))) (.var "kept")) (.seq (.ret (.con (.bool false))) .nil) .nil) N24c)))
noncomputable def N24 : QS := (.seq (.asg "first" (.call "_law_read" (.cons (.var "text") (.cons (.var "source") .nil)))) (.seq (.ite (.bo .Or (.cons (.sub (.var "first") (.con (.int 0))) (.cons (.not (.call "_law_same" (.cons (.sub (.var "first") (.con (.int 1))) (.cons (.var "kept") .nil)))) .nil))) (.seq (.ret (.con (.bool false))) .nil) .nil) N24b))
noncomputable def T24 : QS := (.seq (.asg "text" (.meth .join (.con (.str (Str.ofString ""))) (.var "pieces"))) (.seq (.ite (.cmp .Eq (.bin .Mod (.var "size") (.con (.int 2))) (.con (.int 1))) (.seq (.asg "text" (.meth .rstrip (.var "text") (.con (.str (Str.ofString "\r\n"))))) .nil) .nil) N24))
noncomputable def F24 : QS := (.seq (.asg "full" (.cmp .GtE (.var "style") (.con (.int 3)))) (.seq (.ite (.cmp .Eq (.var "row") (.lst (.cons (.con (.str (Str.ofString ""))) .nil))) (.seq (.asg "full" (.con (.bool true))) .nil) .nil) (.seq (.asg "pieces" (.bin .Add (.var "pieces") (.call "_law_pieces" (.cons (.var "row") (.cons (.var "full") (.cons (.sub (.tab "_law_ENDS") (.bin .Mod (.var "style") (.con (.int 3)))) (.cons (.var "source") .nil))))))) .nil)))
noncomputable def A24 : QS := (.seq (.asg "source" (.sub (.tab "_law_GOOD") (.bin .Mod (.sub (.var "script") (.con (.int 0))) (.con (.int 6))))) (.seq (.asg "target" (.sub (.tab "_law_GOOD") (.bin .Mod (.sub (.var "script") (.con (.int 1))) (.con (.int 6))))) (.seq (.asg "size" (.bin .Mod (.sub (.var "script") (.con (.int 2))) (.con (.int 8)))) (.seq (.asg "one" (.call "_law_row" (.cons (.bin .Mod (.sub (.var "script") (.con (.int 6))) (.con (.int 5))) (.cons (.tup (.cons (.sub (.var "script") (.con (.int 7))) (.cons (.sub (.var "script") (.con (.int 8))) (.cons (.sub (.var "script") (.con (.int 9))) (.cons (.sub (.var "script") (.con (.int 10))) .nil))))) .nil)))) (.seq (.asg "two" (.call "_law_row" (.cons (.bin .Mod (.sub (.var "script") (.con (.int 12))) (.con (.int 5))) (.cons (.tup (.cons (.sub (.var "script") (.con (.int 13))) (.cons (.sub (.var "script") (.con (.int 14))) (.cons (.sub (.var "script") (.con (.int 15))) (.cons (.sub (.var "script") (.con (.int 16))) .nil))))) .nil)))) (.seq (.asg "three" (.call "_law_row" (.cons (.bin .Mod (.sub (.var "script") (.con (.int 18))) (.con (.int 5))) (.cons (.tup (.cons (.sub (.var "script") (.con (.int 19))) (.cons (.sub (.var "script") (.con (.int 20))) (.cons (.sub (.var "script") (.con (.int 21))) (.cons (.sub (.var "script") (.con (.int 22))) .nil))))) .nil)))) (.seq (.asg "table" (.cut (.lst (.cons (.var "one") (.cons (.var "two") (.cons (.var "three") .nil)))) .no (.opt (.bin .FloorDiv (.var "size") (.con (.int 2)))))) (.seq (.cop "kept" (.var "table") "row") (.seq (.asg "pieces" (.lst .nil)) (.seq (.zip "row" "style" (.cons (.var "kept") (.cons (.tup (.cons (.bin .Mod (.sub (.var "script") (.con (.int 11))) (.con (.int 6))) (.cons (.bin .Mod (.sub (.var "script") (.con (.int 17))) (.con (.int 6))) (.cons (.bin .Mod (.sub (.var "script") (.con (.int 23))) (.con (.int 6))) .nil)))) .nil)) F24) T24))))))))))
noncomputable def B24 : QS := (.seq (.ite (.cmp .Lt (.len (.var "script")) (.con (.int 24))) (.seq (.ret (.con (.bool true))) .nil) .nil) A24)
noncomputable def C24 : PC := mkC [("_law_GOOD", gGood), ("_law_BAD", gBad), ("_law_ENDS", gEnds)] [("_law_row", f15), ("_law_pieces", f17), ("_law_read", f20), ("_law_same", f23), ("_law_write", f21), ("_law_text", f18), ("_law_field", f22), ("_law_damage", f19)]
theorem C24_G : C24.G = look [("_law_GOOD", gGood), ("_law_BAD", gBad), ("_law_ENDS", gEnds)] := rfl
theorem C24_F : C24.F = look [("_law_row", f15), ("_law_pieces", f17), ("_law_read", f20), ("_law_same", f23), ("_law_write", f21), ("_law_text", f18), ("_law_field", f22), ("_law_damage", f19)] := rfl
theorem C24_fuel : C24.fuel = LIM := rfl
noncomputable def f24 : List PyData → Out PyData := pcall C24 [Str.ofString "script"] B24
structure W1 (sc : PyData) (d q : Nat) (nl : List Nat) (d' q' : Nat) (nl' : List Nat) (k : Nat) (K : Tab) (P : List (List Nat)) (ρ : PE) : Prop where
  sc : ρ (Str.ofString "script") = some (.dat sc)
  so : ρ (Str.ofString "source") = some (.dat (D3 d q nl))
  ta : ρ (Str.ofString "target") = some (.dat (D3 d' q' nl'))
  si : ρ (Str.ofString "size") = some (.dat (.int (k : Int)))
  tb : ρ (Str.ofString "table") = some (.dat (tabd K))
  ke : ρ (Str.ofString "kept") = some (.dat (tabd K))
  pi : ρ (Str.ofString "pieces") = some (.dat (rowd P))
section
variable {sc : PyData} {d q : Nat} {nl : List Nat} {d' q' : Nat} {nl' : List Nat} {k : Nat} {K : Tab} {P : List (List Nat)} {ρ : PE}
theorem wq_ne (full : Bool) (r : List (List Nat)) (hr : r ≠ []) (h : r = [[]] → full = true) : joinL [d] (r.map (wq full d q)) ≠ [] := by
  cases r with
  | nil => exact absurd rfl hr
  | cons f r =>
    cases r with
    | nil =>
      show wq full d q f ≠ []
      unfold wq
      split
      · exact fun e => nomatch e
      · rename_i hc
        intro e
        rw [e] at h
        rw [h rfl] at hc
        exact hc rfl
    | cons g r =>
      show wq full d q f ++ [d] ++ _ ≠ []
      intro e
      have := congrArg List.length e
      rw [List.length_append, List.length_append, List.length_singleton, List.length_nil] at this
      omega
theorem step24 (g : Gd d q nl) (W : W1 sc d q nl d' q' nl' k K P ρ) {R : Tab} (p : Pk d q P R) (hR : R.length ≤ 3) (r : List (List Nat)) (w : Rw r) (s : Nat) :
    ∃ ρ' P', pex C24 F24 (upd (upd ρ (Str.ofString "row") (.dat (rowd r))) (Str.ofString "style") (.dat (.int (s : Int)))) = .ok (.next, ρ') ∧ W1 sc d q nl d' q' nl' k K P' ρ' ∧ Pk d q P' (R ++ [r]) := by
  have hL : LIM = 16777216 := rfl
  obtain ⟨j, hj, ej⟩ := fmod_small (s : Int) 3 (by decide)
  have ej' : ((s : Nat) : Int).fmod 3 = (j : Int) := ej
  have n3 : ((3 : Int) = 0) = False := eq_false (by decide)
  obtain ⟨e, pe, he⟩ := end_at hj
  have le : e.length ≤ 2 := by rcases he with rfl | rfl | rfl <;> decide
  have pl := p.ln
  have go : ∀ full : Bool, (r = [[]] → full = true) → Pk d q (P ++ pcs d e (r.map (wq full d q))) (R ++ [r]) := fun full h => p.more g.D he (wrs_wq full d q r) w.ne (wq_ne full r w.ne h) (by rw [List.length_map]; exact w.l5) (Nat.le_trans (w.wl full d q) (by decide))
  have e17 : ∀ full, f17 [rowd r, .bool full, .str (tx e), D3 d q nl] = .ok (rowd (pcs d e (r.map (wq full d q)))) := fun full => f17_eq r full e d q nl w.ne (Nat.le_trans w.l5 (by decide)) (fun f hf => Nat.le_trans (w.l4 f hf) (by decide)) le
  have pb : ∀ full, pbin .Add (rowd P) (rowd (pcs d e (r.map (wq full d q)))) = .ok (rowd (P ++ pcs d e (r.map (wq full d q)))) := fun full => pbin_row _ _ (by rw [pcs_len, List.length_map]; have := w.l5; omega)
  unfold F24
  by_cases h : r = [[]]
  · have h' : decide (r = [[]]) = true := decide_eq_true h
    have hc := pcmp_lone r
    rw [h'] at hc
    refine ⟨_, P ++ pcs d e (r.map (wq true d q)), by simp -implicitDefEqProofs only [↓reduceIte, ↓pex_seq, pex_nil, pex_ret, pex_cont, pex_asg, pex_own, pex_pop, pex_cop, pex_app, pex_raise, pex_try, pex_frz, pex_if, pex_while, pex_frn, pex_rng, fq_ok, fq_exc, fk_next, fk_cont, fk_ret, fk_exc, fk_ite, fr_nil, pev_con, pev_var, pev_tab, pev_bin, pev_neg, pev_not, pev_bo, pev_cmp, pev_ty, pev_tup, pev_lst, pev_sub, pev_cut, pev_meth, pev_replC, pev_replV, pev_replD, pev_call, pev_len, pev_lenO, pev_lis, pevs_nil, pevs_cons, peo_no, peo_opt, ptest_eq, pbo_or, pbo_and, pbo_one, piter_l, piter_t, piter_s, prange_i, pvar_dat, ptab_some, plenO_dat, plenO_own, pfn_some, pstrV_str, frz1_own, frz1_dat, papp_own, pcop_list, ptry_ok, ptry_exc, ptry_bad, seqk_next, seqk_brk, seqk_cont, seqk_ret, seqk_exc, seqk_bad, seqk_ite, ifk_true, ifk_false, ifk_dec, ifk_not, ifk_exc, ifk_bad, ifk_ite, fink_ret, fink_next, fink_exc, fink_bad, fink_ite, upd_eq, upd_ne, bindPE_nil, bindPE_cons, none0_app, look_hit, look_ne, ok_bind, exc_bind, bad_bind, ite_bind, pcmp_eq_s, pcmp_ne_s, pcmp_eq_i, pcmp_ne_i, pcmp_lt, pcmp_gt, pcmp_ge, pbin_add_s, pbin_add_i, pbin_add_l, pbin_sub, pbin_mod, pbin_fdiv, pbool_b, pint_i, pstr_s, plen_s, plen_l, plen_t, plist_l, ofS_inj, String.reduceEq, String.reduceNe, List.zip_cons_cons, List.zip_nil_left, List.map_cons, List.map_nil, List.nil_append, List.append_nil, List.cons_append, ite_true, ite_false, decide_false, decide_true, Bool.not_true, Bool.not_false, or_true, true_or, or_false, false_or, or_self, and_self, and_true, true_and, and_false, false_and, not_true_eq_false, not_false_eq_true, reduceCtorEq, Bool.false_eq_true, Bool.true_eq_false, ← decide_not, decide_eq_true_eq, tx_inj, tx_len, ne_eq, Classical.not_not, eq13, eq10, eq1310, eq0, List.cons.injEq, C24_G, C24_F, W.sc, W.so, W.ta, W.si, W.tb, W.ke, W.pi, one_le, hc, n3, ej', pe, e17, pb]; rfl, ?_, go true fun _ => rfl⟩
    constructor <;> simp -implicitDefEqProofs only [upd_eq, upd_ne, String.reduceEq, not_false_eq_true, none0_app, W.sc, W.so, W.ta, W.si, W.tb, W.ke, W.pi]
  · have h' : decide (r = [[]]) = false := decide_eq_false h
    have hc := pcmp_lone r
    rw [h'] at hc
    refine ⟨_, P ++ pcs d e (r.map (wq (decide ((3 : Int) ≤ (s : Int))) d q)), by simp -implicitDefEqProofs only [↓reduceIte, ↓pex_seq, pex_nil, pex_ret, pex_cont, pex_asg, pex_own, pex_pop, pex_cop, pex_app, pex_raise, pex_try, pex_frz, pex_if, pex_while, pex_frn, pex_rng, fq_ok, fq_exc, fk_next, fk_cont, fk_ret, fk_exc, fk_ite, fr_nil, pev_con, pev_var, pev_tab, pev_bin, pev_neg, pev_not, pev_bo, pev_cmp, pev_ty, pev_tup, pev_lst, pev_sub, pev_cut, pev_meth, pev_replC, pev_replV, pev_replD, pev_call, pev_len, pev_lenO, pev_lis, pevs_nil, pevs_cons, peo_no, peo_opt, ptest_eq, pbo_or, pbo_and, pbo_one, piter_l, piter_t, piter_s, prange_i, pvar_dat, ptab_some, plenO_dat, plenO_own, pfn_some, pstrV_str, frz1_own, frz1_dat, papp_own, pcop_list, ptry_ok, ptry_exc, ptry_bad, seqk_next, seqk_brk, seqk_cont, seqk_ret, seqk_exc, seqk_bad, seqk_ite, ifk_true, ifk_false, ifk_dec, ifk_not, ifk_exc, ifk_bad, ifk_ite, fink_ret, fink_next, fink_exc, fink_bad, fink_ite, upd_eq, upd_ne, bindPE_nil, bindPE_cons, none0_app, look_hit, look_ne, ok_bind, exc_bind, bad_bind, ite_bind, pcmp_eq_s, pcmp_ne_s, pcmp_eq_i, pcmp_ne_i, pcmp_lt, pcmp_gt, pcmp_ge, pbin_add_s, pbin_add_i, pbin_add_l, pbin_sub, pbin_mod, pbin_fdiv, pbool_b, pint_i, pstr_s, plen_s, plen_l, plen_t, plist_l, ofS_inj, String.reduceEq, String.reduceNe, List.zip_cons_cons, List.zip_nil_left, List.map_cons, List.map_nil, List.nil_append, List.append_nil, List.cons_append, ite_true, ite_false, decide_false, decide_true, Bool.not_true, Bool.not_false, or_true, true_or, or_false, false_or, or_self, and_self, and_true, true_and, and_false, false_and, not_true_eq_false, not_false_eq_true, reduceCtorEq, Bool.false_eq_true, Bool.true_eq_false, ← decide_not, decide_eq_true_eq, tx_inj, tx_len, ne_eq, Classical.not_not, eq13, eq10, eq1310, eq0, List.cons.injEq, C24_G, C24_F, W.sc, W.so, W.ta, W.si, W.tb, W.ke, W.pi, one_le, hc, n3, ej', pe, e17, pb]; rfl, ?_, go _ fun e => absurd e h⟩
    constructor <;> simp -implicitDefEqProofs only [upd_eq, upd_ne, String.reduceEq, not_false_eq_true, none0_app, W.sc, W.so, W.ta, W.si, W.tb, W.ke, W.pi]
theorem loop24 (g : Gd d q nl) : ∀ (L : Tab) (ss : List Nat) (P : List (List Nat)) (R : Tab) (ρ : PE), W1 sc d q nl d' q' nl' k K P ρ → Pk d q P R → L.length ≤ ss.length → R.length + L.length ≤ 3 → (∀ r ∈ L, Rw r) →
    ∃ ρ' P', fr C24 ["row", "style"] F24 (zipD (L.map rowd) (ss.map fun (s : Nat) => PyData.int (s : Int))) ρ = .ok (.next, ρ') ∧ W1 sc d q nl d' q' nl' k K P' ρ' ∧ Pk d q P' (R ++ L)
  | [], ss, P, R, ρ, W, p, _, _, _ => ⟨ρ, P, by rw [List.map_nil]; cases ss <;> rfl, W, by rw [List.append_nil]; exact p⟩
  | r :: L, [], P, R, ρ, W, p, h, _, _ => absurd h (Nat.not_succ_le_zero _)
  | r :: L, s :: ss, P, R, ρ, W, p, h, h3, hw => by
    rw [List.length_cons] at h3
    obtain ⟨ρ1, P1, e1, W', p1⟩ := step24 g W p (by omega) r (hw r (List.mem_cons_self ..)) s
    obtain ⟨ρ2, P2, e2, W2, p2⟩ := loop24 g L ss P1 (R ++ [r]) ρ1 W' p1 (Nat.le_of_succ_le_succ h) (by rw [List.length_append, List.length_singleton]; omega) (fun r hr => hw r (List.mem_cons_of_mem _ hr))
    refine ⟨ρ2, P2, ?_, W2, by rw [List.append_assoc] at p2; exact p2⟩
    rw [List.map_cons, List.map_cons, zipD, fr_pair, e1, fk_next, e2]
end
end Mine

open PySem
set_option maxRecDepth 100000
set_option maxHeartbeats 4000000
set_option linter.unusedSimpArgs false
namespace Mine

structure W2 (sc : PyData) (d q : Nat) (nl : List Nat) (d' q' : Nat) (nl' : List Nat) (k : Nat) (K : Tab) (P : List (List Nat)) (T : List Nat) (ρ : PE) : Prop extends W1 sc d q nl d' q' nl' k K P ρ where
  tx : ρ (Str.ofString "text") = some (.dat (.str (tx T)))
/-- the table that is kept -/
structure Kt (K : Tab) : Prop where
  l3 : K.length ≤ 3
  w : ∀ r ∈ K, Rw r
theorem Kt.sz {K : Tab} (h : Kt K) : tsz K ≤ 174 := by
  have := sum_le' (K.map fun r => rsz r + 3) 58 (by
    intro x hx
    obtain ⟨r, hr, rfl⟩ := List.mem_map.mp hx
    have := (h.w r hr).sz
    omega)
  have l3 := h.l3
  rw [List.length_map] at this
  unfold tsz
  omega
theorem fmod_at (x : Int) (n : Nat) : ∃ j : Nat, j ≤ n ∧ x.fmod ((n : Int) + 1) = (j : Int) := by
  obtain ⟨j, hj, e⟩ := fmod_small x (n + 1) (Nat.succ_pos n)
  exact ⟨j, Nat.le_of_lt_succ hj, e⟩
theorem ne1 (n : Nat) : (((n : Int) + 1) = 0) = False := eq_false (by omega)
theorem tab0 : PyData.list [PyData.list []] = tabd [[]] := rfl
section
variable {sc : PyData} {d q : Nat} {nl : List Nat} {d' q' : Nat} {nl' : List Nat} {k : Nat} {K : Tab} {P : List (List Nat)} {T : List Nat} {ρ : PE}
theorem rd20 (g : Gd d q nl) {x : List Nat} {R : Tab} (hx : x.length < 1000000) (h : parse d q x = some R) : f20 [.str (tx x), D3 d q nl] = .ok (.tuple [.bool false, tabd R]) := by
  have := f4_eq x d q nl hx g.ok
  rw [h] at this
  rw [f20_eq, show f4 [.str (tx x), D3 d q nl] = _ from this]
theorem rd20_no (g : Gd d q nl) {x : List Nat} (hx : x.length < 1000000) (h : parse d q x = none) : f20 [.str (tx x), D3 d q nl] = .ok (.tuple [.bool true, .none]) := by
  have := f4_eq x d q nl hx g.ok
  rw [h] at this
  rw [f20_eq, show f4 [.str (tx x), D3 d q nl] = _ from this]
theorem wr21 (g : Gd d q nl) (h : Kt K) : f21 [tabd K, D3 d q nl] = .ok (.tuple [.bool false, .str (tx (K.flatMap fun r => fmtRow d q r ++ nl))]) := by
  have := f9_eq K d q nl (Nat.lt_of_le_of_lt h.sz (by decide)) g.ok g.l2
  unfold fmtTab at this
  rw [if_neg (any_ne fun r hr => (h.w r hr).ne)] at this
  rw [f21_eq, show f9 [tabd K, D3 d q nl] = _ from this]
theorem eE (W : W2 sc d q nl d' q' nl' k K P T ρ) (H : ∀ i : Nat, i < 24 → ∃ x, pitem sc (i : Int) = .ok (.int x)) (g' : Gd d' q' nl') (kt : Kt K) : fink (pex C24 E24 ρ) = .ok (.bool true) := by
  have hL : LIM = 16777216 := rfl
  have l3 := kt.l3
  obtain ⟨x, jx⟩ := H 5 (by decide)
  have j5 : pitem sc 5 = .ok (.int x) := jx
  obtain ⟨j, hj, ej⟩ := fmod_at x K.length
  have n1 := ne1 K.length
  have pl := plen_tab K (by omega)
  have p1 := pcut_tt K j (by omega)
  have p2 := pcut_tf K j (by omega)
  have t1 : (K.take j).length ≤ K.length := by rw [List.length_take]; omega
  have t2 : (K.drop j).length ≤ K.length := by rw [List.length_drop]; omega
  have b1 := pbin_tab (K.take j) [[]] (by rw [List.length_singleton]; omega)
  have b2 := pbin_tab (K.take j ++ [[]]) (K.drop j) (by rw [List.length_append, List.length_singleton]; omega)
  have e21 : f21 [tabd (K.take j ++ [[]] ++ K.drop j), D3 d' q' nl'] = .ok (.tuple [.bool true, .none]) := by
    have sz : tsz (K.take j ++ [[]] ++ K.drop j) < 1000000 := by
      rw [tsz_app, tsz_app]
      have h1 := tsz_take_drop K j
      have h2 : tsz [[]] = 3 := rfl
      have h3 := kt.sz
      omega
    have := f9_eq _ d' q' nl' sz g'.ok g'.l2
    unfold fmtTab at this
    rw [if_pos (by simp)] at this
    rw [f21_eq, show f9 [tabd _, D3 d' q' nl'] = _ from this]
  unfold E24
  simp -implicitDefEqProofs only [↓reduceIte, ↓pex_seq, pex_nil, pex_ret, pex_cont, pex_asg, pex_own, pex_pop, pex_cop, pex_app, pex_raise, pex_try, pex_frz, pex_if, pex_while, pex_frn, pex_rng, fq_ok, fq_exc, fk_next, fk_cont, fk_ret, fk_exc, fk_ite, fr_nil, pev_con, pev_var, pev_tab, pev_bin, pev_neg, pev_not, pev_bo, pev_cmp, pev_ty, pev_tup, pev_lst, pev_sub, pev_cut, pev_meth, pev_replC, pev_replV, pev_replD, pev_call, pev_len, pev_lenO, pev_lis, pevs_nil, pevs_cons, peo_no, peo_opt, ptest_eq, pbo_or, pbo_and, pbo_one, piter_l, piter_t, piter_s, prange_i, pvar_dat, ptab_some, plenO_dat, plenO_own, pfn_some, pstrV_str, frz1_own, frz1_dat, papp_own, pcop_list, ptry_ok, ptry_exc, ptry_bad, seqk_next, seqk_brk, seqk_cont, seqk_ret, seqk_exc, seqk_bad, seqk_ite, ifk_true, ifk_false, ifk_dec, ifk_not, ifk_exc, ifk_bad, ifk_ite, fink_ret, fink_next, fink_exc, fink_bad, fink_ite, upd_eq, upd_ne, bindPE_nil, bindPE_cons, none0_app, look_hit, look_ne, ok_bind, exc_bind, bad_bind, ite_bind, pcmp_eq_s, pcmp_ne_s, pcmp_eq_i, pcmp_ne_i, pcmp_lt, pcmp_gt, pcmp_ge, pbin_add_s, pbin_add_i, pbin_add_l, pbin_sub, pbin_mod, pbin_fdiv, pbool_b, pint_i, pstr_s, plen_s, plen_l, plen_t, plist_l, ofS_inj, String.reduceEq, String.reduceNe, List.zip_cons_cons, List.zip_nil_left, List.map_cons, List.map_nil, List.nil_append, List.append_nil, List.cons_append, ite_true, ite_false, decide_false, decide_true, Bool.not_true, Bool.not_false, or_true, true_or, or_false, false_or, or_self, and_self, and_true, true_and, and_false, false_and, not_true_eq_false, not_false_eq_true, reduceCtorEq, Bool.false_eq_true, Bool.true_eq_false, ← decide_not, decide_eq_true_eq, tx_inj, tx_len, ne_eq, Classical.not_not, eq13, eq10, eq1310, eq0, List.cons.injEq, C24_G, C24_F, W.sc, W.so, W.ta, W.si, W.tb, W.ke, W.pi, W.tx, j5, pl, n1, ej, p1, p2, nil_le, one_le, tab0, b1, b2, e21, two_le, pair_none, pcmp_ne_tab]
theorem eD (W : W2 sc d q nl d' q' nl' k K P T ρ) (H : ∀ i : Nat, i < 24 → ∃ x, pitem sc (i : Int) = .ok (.int x)) (g : Gd d q nl) (g' : Gd d' q' nl') (kt : Kt K) (p : Pk d q P K) : fink (pex C24 D24 ρ) = .ok (.bool true) := by
  have hL : LIM = 16777216 := rfl
  have l3 := kt.l3
  have pln := p.ln
  have psz := p.sz
  obtain ⟨x, jx⟩ := H 5 (by decide)
  have j5 : pitem sc 5 = .ok (.int x) := jx
  obtain ⟨y, jy⟩ := H 4 (by decide)
  have j4 : pitem sc 4 = .ok (.int y) := jy
  obtain ⟨j, hj, ej⟩ := fmod_at x P.length
  obtain ⟨i, hi, ei⟩ := fmod_small y 3 (by decide)
  have ei' : y.fmod 3 = (i : Int) := ei
  have n3 : ((3 : Int) = 0) = False := eq_false (by decide)
  have n1 := ne1 P.length
  have pl := plen_row P (by omega)
  have p1 := pcut_rt P j (by omega)
  have p2 := pcut_rf P j (by omega)
  have fl : (P.take j).flatten.length + (P.drop j).flatten.length = P.flatten.length := by rw [← List.length_append, ← List.flatten_append, List.take_append_drop]
  have q1 := join_flat (P.take j) (by omega)
  have q2 := join_flat (P.drop j) (by omega)
  obtain ⟨z, e19, lz, hz⟩ := f19_eq i (P.take j).flatten (P.drop j).flatten q hi (by omega) (by omega)
  have e20 : f20 [.str (tx ((P.take j).flatten ++ z)), D3 d q nl] = .ok (.tuple [.bool true, .none]) := by
    refine rd20_no g (by rw [List.length_append]; omega) ?_
    rcases hz with rfl | rfl | rfl
    · exact p.dmg0 g.D j _
    · exact p.dmg1 g.D g.hx.1 g.hx.2 j _
    · exact p.dmg2 g.D g.hx.1 g.hx.2 j _
  generalize (P.take j).flatten ++ z = dd at e19 e20
  unfold D24
  simp -implicitDefEqProofs only [↓reduceIte, ↓pex_seq, pex_nil, pex_ret, pex_cont, pex_asg, pex_own, pex_pop, pex_cop, pex_app, pex_raise, pex_try, pex_frz, pex_if, pex_while, pex_frn, pex_rng, fq_ok, fq_exc, fk_next, fk_cont, fk_ret, fk_exc, fk_ite, fr_nil, pev_con, pev_var, pev_tab, pev_bin, pev_neg, pev_not, pev_bo, pev_cmp, pev_ty, pev_tup, pev_lst, pev_sub, pev_cut, pev_meth, pev_replC, pev_replV, pev_replD, pev_call, pev_len, pev_lenO, pev_lis, pevs_nil, pevs_cons, peo_no, peo_opt, ptest_eq, pbo_or, pbo_and, pbo_one, piter_l, piter_t, piter_s, prange_i, pvar_dat, ptab_some, plenO_dat, plenO_own, pfn_some, pstrV_str, frz1_own, frz1_dat, papp_own, pcop_list, ptry_ok, ptry_exc, ptry_bad, seqk_next, seqk_brk, seqk_cont, seqk_ret, seqk_exc, seqk_bad, seqk_ite, ifk_true, ifk_false, ifk_dec, ifk_not, ifk_exc, ifk_bad, ifk_ite, fink_ret, fink_next, fink_exc, fink_bad, fink_ite, upd_eq, upd_ne, bindPE_nil, bindPE_cons, none0_app, look_hit, look_ne, ok_bind, exc_bind, bad_bind, ite_bind, pcmp_eq_s, pcmp_ne_s, pcmp_eq_i, pcmp_ne_i, pcmp_lt, pcmp_gt, pcmp_ge, pbin_add_s, pbin_add_i, pbin_add_l, pbin_sub, pbin_mod, pbin_fdiv, pbool_b, pint_i, pstr_s, plen_s, plen_l, plen_t, plist_l, ofS_inj, String.reduceEq, String.reduceNe, List.zip_cons_cons, List.zip_nil_left, List.map_cons, List.map_nil, List.nil_append, List.append_nil, List.cons_append, ite_true, ite_false, decide_false, decide_true, Bool.not_true, Bool.not_false, or_true, true_or, or_false, false_or, or_self, and_self, and_true, true_and, and_false, false_and, not_true_eq_false, not_false_eq_true, reduceCtorEq, Bool.false_eq_true, Bool.true_eq_false, ← decide_not, decide_eq_true_eq, tx_inj, tx_len, ne_eq, Classical.not_not, eq13, eq10, eq1310, eq0, List.cons.injEq, C24_G, C24_F, W.sc, W.so, W.ta, W.si, W.tb, W.ke, W.pi, W.tx, j5, j4, pl, n1, ej, n3, ei', p1, p2, q1, q2, d3_1, e19, e20, two_le, pair_none]
  exact eE (sc := sc) (d := d) (q := q) (nl := nl) (d' := d') (q' := q') (nl' := nl') (k := k) (K := K) (P := P) (T := T) (by constructor <;> (try constructor) <;> simp -implicitDefEqProofs only [upd_eq, upd_ne, String.reduceEq, not_false_eq_true, none0_app, W.sc, W.so, W.ta, W.si, W.tb, W.ke, W.pi, W.tx]) H g' kt
theorem eM (W : W2 sc d q nl d' q' nl' k K P T ρ) (H : ∀ i : Nat, i < 24 → ∃ x, pitem sc (i : Int) = .ok (.int x)) (g : Gd d q nl) (g' : Gd d' q' nl') (kt : Kt K) (p : Pk d q P K) : fink (pex C24 M24 ρ) = .ok (.bool true) := by
  obtain ⟨x, jx⟩ := H 3 (by decide)
  have j3 : pitem sc 3 = .ok (.int x) := jx
  obtain ⟨i, hi, ei⟩ := fmod_small x 12 (by decide)
  have ei' : x.fmod 12 = (i : Int) := ei
  have n12 : ((12 : Int) = 0) = False := eq_false (by decide)
  obtain ⟨Bd, pB, fB⟩ := bad_at hi
  have e20 : f20 [.str (tx T), Bd] = .ok (.tuple [.bool true, .none]) := by rw [f20_eq, f4_bad fB]
  have e21 : f21 [tabd K, Bd] = .ok (.tuple [.bool true, .none]) := by rw [f21_eq, f9_bad fB]
  have e22 : f22 [.str (tx T), Bd] = .ok (.tuple [.bool true, .none]) := by rw [f22_eq, f8_bad fB]
  unfold M24
  simp -implicitDefEqProofs only [↓reduceIte, ↓pex_seq, pex_nil, pex_ret, pex_cont, pex_asg, pex_own, pex_pop, pex_cop, pex_app, pex_raise, pex_try, pex_frz, pex_if, pex_while, pex_frn, pex_rng, fq_ok, fq_exc, fk_next, fk_cont, fk_ret, fk_exc, fk_ite, fr_nil, pev_con, pev_var, pev_tab, pev_bin, pev_neg, pev_not, pev_bo, pev_cmp, pev_ty, pev_tup, pev_lst, pev_sub, pev_cut, pev_meth, pev_replC, pev_replV, pev_replD, pev_call, pev_len, pev_lenO, pev_lis, pevs_nil, pevs_cons, peo_no, peo_opt, ptest_eq, pbo_or, pbo_and, pbo_one, piter_l, piter_t, piter_s, prange_i, pvar_dat, ptab_some, plenO_dat, plenO_own, pfn_some, pstrV_str, frz1_own, frz1_dat, papp_own, pcop_list, ptry_ok, ptry_exc, ptry_bad, seqk_next, seqk_brk, seqk_cont, seqk_ret, seqk_exc, seqk_bad, seqk_ite, ifk_true, ifk_false, ifk_dec, ifk_not, ifk_exc, ifk_bad, ifk_ite, fink_ret, fink_next, fink_exc, fink_bad, fink_ite, upd_eq, upd_ne, bindPE_nil, bindPE_cons, none0_app, look_hit, look_ne, ok_bind, exc_bind, bad_bind, ite_bind, pcmp_eq_s, pcmp_ne_s, pcmp_eq_i, pcmp_ne_i, pcmp_lt, pcmp_gt, pcmp_ge, pbin_add_s, pbin_add_i, pbin_add_l, pbin_sub, pbin_mod, pbin_fdiv, pbool_b, pint_i, pstr_s, plen_s, plen_l, plen_t, plist_l, ofS_inj, String.reduceEq, String.reduceNe, List.zip_cons_cons, List.zip_nil_left, List.map_cons, List.map_nil, List.nil_append, List.append_nil, List.cons_append, ite_true, ite_false, decide_false, decide_true, Bool.not_true, Bool.not_false, or_true, true_or, or_false, false_or, or_self, and_self, and_true, true_and, and_false, false_and, not_true_eq_false, not_false_eq_true, reduceCtorEq, Bool.false_eq_true, Bool.true_eq_false, ← decide_not, decide_eq_true_eq, tx_inj, tx_len, ne_eq, Classical.not_not, eq13, eq10, eq1310, eq0, List.cons.injEq, C24_G, C24_F, W.sc, W.so, W.ta, W.si, W.tb, W.ke, W.pi, W.tx, j3, n12, ei', pB, e20, e21, e22, two_le, pair_none]
  exact eD (sc := sc) (d := d) (q := q) (nl := nl) (d' := d') (q' := q') (nl' := nl') (k := k) (K := K) (P := P) (T := T) (by constructor <;> (try constructor) <;> simp -implicitDefEqProofs only [upd_eq, upd_ne, String.reduceEq, not_false_eq_true, none0_app, W.sc, W.so, W.ta, W.si, W.tb, W.ke, W.pi, W.tx]) H g g' kt p
theorem loopH (g' : Gd d' q' nl') : ∀ (r : List (List Nat)) (ρ : PE), W2 sc d q nl d' q' nl' k K P T ρ → (∀ f ∈ r, f.length ≤ 4) → ∃ ρ', fr C24 ["field"] H24 (r.map txd) ρ = .ok (.next, ρ') ∧ W2 sc d q nl d' q' nl' k K P T ρ'
  | [], ρ, W, _ => ⟨ρ, rfl, W⟩
  | f :: r, ρ, W, hr => by
    have hf := hr f (List.mem_cons_self ..)
    obtain ⟨ρ', ih, W'⟩ := loopH g' r (upd ρ (Str.ofString "field") (.dat (txd f))) (by constructor <;> (try constructor) <;> simp -implicitDefEqProofs only [upd_eq, upd_ne, String.reduceEq, not_false_eq_true, none0_app, W.sc, W.so, W.ta, W.si, W.tb, W.ke, W.pi, W.tx]) (fun f hf => hr f (List.mem_cons_of_mem _ hf))
    refine ⟨ρ', ?_, W'⟩
    have e22 : f22 [txd f, D3 d' q' nl'] = .ok (.tuple [.bool false, .str (tx (fmt d' q' f))]) := by
      rw [f22_eq, show f8 [txd f, D3 d' q' nl'] = _ from f8_eq f d' q' nl' (by omega) g'.ok]
    have e17 := f17_eq [f] false [] d' q' nl' (List.cons_ne_nil _ _) (by rw [List.length_singleton]; decide) (fun x hx => by rw [List.mem_singleton.mp hx]; omega) (by decide)
    have e17' : f17 [.list [txd f], .bool false, .str (Str.ofString ""), D3 d' q' nl'] = .ok (rowd [fmt d' q' f]) := by
      rw [s0]
      refine e17.trans ?_
      rw [List.map_cons, List.map_nil, pcs_one, List.append_nil]; rfl
    have p0 : pitem (rowd [fmt d' q' f]) 0 = .ok (.str (tx (fmt d' q' f))) := pitem_list _ 0 _ rfl (by decide)
    rw [← ih, List.map_cons, fr_name]
    unfold H24
    simp -implicitDefEqProofs only [↓reduceIte, ↓pex_seq, pex_nil, pex_ret, pex_cont, pex_asg, pex_own, pex_pop, pex_cop, pex_app, pex_raise, pex_try, pex_frz, pex_if, pex_while, pex_frn, pex_rng, fq_ok, fq_exc, fk_next, fk_cont, fk_ret, fk_exc, fk_ite, fr_nil, pev_con, pev_var, pev_tab, pev_bin, pev_neg, pev_not, pev_bo, pev_cmp, pev_ty, pev_tup, pev_lst, pev_sub, pev_cut, pev_meth, pev_replC, pev_replV, pev_replD, pev_call, pev_len, pev_lenO, pev_lis, pevs_nil, pevs_cons, peo_no, peo_opt, ptest_eq, pbo_or, pbo_and, pbo_one, piter_l, piter_t, piter_s, prange_i, pvar_dat, ptab_some, plenO_dat, plenO_own, pfn_some, pstrV_str, frz1_own, frz1_dat, papp_own, pcop_list, ptry_ok, ptry_exc, ptry_bad, seqk_next, seqk_brk, seqk_cont, seqk_ret, seqk_exc, seqk_bad, seqk_ite, ifk_true, ifk_false, ifk_dec, ifk_not, ifk_exc, ifk_bad, ifk_ite, fink_ret, fink_next, fink_exc, fink_bad, fink_ite, upd_eq, upd_ne, bindPE_nil, bindPE_cons, none0_app, look_hit, look_ne, ok_bind, exc_bind, bad_bind, ite_bind, pcmp_eq_s, pcmp_ne_s, pcmp_eq_i, pcmp_ne_i, pcmp_lt, pcmp_gt, pcmp_ge, pbin_add_s, pbin_add_i, pbin_add_l, pbin_sub, pbin_mod, pbin_fdiv, pbool_b, pint_i, pstr_s, plen_s, plen_l, plen_t, plist_l, ofS_inj, String.reduceEq, String.reduceNe, List.zip_cons_cons, List.zip_nil_left, List.map_cons, List.map_nil, List.nil_append, List.append_nil, List.cons_append, ite_true, ite_false, decide_false, decide_true, Bool.not_true, Bool.not_false, or_true, true_or, or_false, false_or, or_self, and_self, and_true, true_and, and_false, false_and, not_true_eq_false, not_false_eq_true, reduceCtorEq, Bool.false_eq_true, Bool.true_eq_false, ← decide_not, decide_eq_true_eq, tx_inj, tx_len, ne_eq, Classical.not_not, eq13, eq10, eq1310, eq0, List.cons.injEq, C24_G, C24_F, W.sc, W.so, W.ta, W.si, W.tb, W.ke, W.pi, W.tx, e22, one_le, e17', p0, two_le, pair_str]
theorem loopG (g' : Gd d' q' nl') : ∀ (L : Tab) (ρ : PE), W2 sc d q nl d' q' nl' k K P T ρ → (∀ r ∈ L, Rw r) → ∃ ρ', fr C24 ["row"] G24 (L.map rowd) ρ = .ok (.next, ρ') ∧ W2 sc d q nl d' q' nl' k K P T ρ'
  | [], ρ, W, _ => ⟨ρ, rfl, W⟩
  | r :: L, ρ, W, hr => by
    obtain ⟨ρ1, h1, W1⟩ := loopH (sc := sc) (d := d) (q := q) (nl := nl) (d' := d') (q' := q') (nl' := nl') (k := k) (K := K) (P := P) (T := T) g' r (upd ρ (Str.ofString "row") (.dat (rowd r))) (by constructor <;> (try constructor) <;> simp -implicitDefEqProofs only [upd_eq, upd_ne, String.reduceEq, not_false_eq_true, none0_app, W.sc, W.so, W.ta, W.si, W.tb, W.ke, W.pi, W.tx]) (hr r (List.mem_cons_self ..)).l4
    obtain ⟨ρ', ih, W'⟩ := loopG g' L ρ1 W1 (fun r h => hr r (List.mem_cons_of_mem _ h))
    refine ⟨ρ', ?_, W'⟩
    have pr : piter (rowd r) = .ok (r.map txd) := rfl
    rw [← ih, List.map_cons, fr_name]
    unfold G24
    simp -implicitDefEqProofs only [↓reduceIte, ↓pex_seq, pex_nil, pex_ret, pex_cont, pex_asg, pex_own, pex_pop, pex_cop, pex_app, pex_raise, pex_try, pex_frz, pex_if, pex_while, pex_frn, pex_rng, fq_ok, fq_exc, fk_next, fk_cont, fk_ret, fk_exc, fk_ite, fr_nil, pev_con, pev_var, pev_tab, pev_bin, pev_neg, pev_not, pev_bo, pev_cmp, pev_ty, pev_tup, pev_lst, pev_sub, pev_cut, pev_meth, pev_replC, pev_replV, pev_replD, pev_call, pev_len, pev_lenO, pev_lis, pevs_nil, pevs_cons, peo_no, peo_opt, ptest_eq, pbo_or, pbo_and, pbo_one, piter_l, piter_t, piter_s, prange_i, pvar_dat, ptab_some, plenO_dat, plenO_own, pfn_some, pstrV_str, frz1_own, frz1_dat, papp_own, pcop_list, ptry_ok, ptry_exc, ptry_bad, seqk_next, seqk_brk, seqk_cont, seqk_ret, seqk_exc, seqk_bad, seqk_ite, ifk_true, ifk_false, ifk_dec, ifk_not, ifk_exc, ifk_bad, ifk_ite, fink_ret, fink_next, fink_exc, fink_bad, fink_ite, upd_eq, upd_ne, bindPE_nil, bindPE_cons, none0_app, look_hit, look_ne, ok_bind, exc_bind, bad_bind, ite_bind, pcmp_eq_s, pcmp_ne_s, pcmp_eq_i, pcmp_ne_i, pcmp_lt, pcmp_gt, pcmp_ge, pbin_add_s, pbin_add_i, pbin_add_l, pbin_sub, pbin_mod, pbin_fdiv, pbool_b, pint_i, pstr_s, plen_s, plen_l, plen_t, plist_l, ofS_inj, String.reduceEq, String.reduceNe, List.zip_cons_cons, List.zip_nil_left, List.map_cons, List.map_nil, List.nil_append, List.append_nil, List.cons_append, ite_true, ite_false, decide_false, decide_true, Bool.not_true, Bool.not_false, or_true, true_or, or_false, false_or, or_self, and_self, and_true, true_and, and_false, false_and, not_true_eq_false, not_false_eq_true, reduceCtorEq, Bool.false_eq_true, Bool.true_eq_false, ← decide_not, decide_eq_true_eq, tx_inj, tx_len, ne_eq, Classical.not_not, eq13, eq10, eq1310, eq0, List.cons.injEq, C24_G, C24_F, pr, h1]
theorem eL (W : W2 sc d q nl d' q' nl' k K P T ρ) (H : ∀ i : Nat, i < 24 → ∃ x, pitem sc (i : Int) = .ok (.int x)) (g : Gd d q nl) (g' : Gd d' q' nl') (kt : Kt K) (p : Pk d q P K) : fink (pex C24 L24 ρ) = .ok (.bool true) := by
  obtain ⟨ρ', h, W'⟩ := loopG g' K ρ W kt.w
  have pr : piter (tabd K) = .ok (K.map rowd) := rfl
  unfold L24
  simp -implicitDefEqProofs only [↓reduceIte, ↓pex_seq, pex_nil, pex_ret, pex_cont, pex_asg, pex_own, pex_pop, pex_cop, pex_app, pex_raise, pex_try, pex_frz, pex_if, pex_while, pex_frn, pex_rng, fq_ok, fq_exc, fk_next, fk_cont, fk_ret, fk_exc, fk_ite, fr_nil, pev_con, pev_var, pev_tab, pev_bin, pev_neg, pev_not, pev_bo, pev_cmp, pev_ty, pev_tup, pev_lst, pev_sub, pev_cut, pev_meth, pev_replC, pev_replV, pev_replD, pev_call, pev_len, pev_lenO, pev_lis, pevs_nil, pevs_cons, peo_no, peo_opt, ptest_eq, pbo_or, pbo_and, pbo_one, piter_l, piter_t, piter_s, prange_i, pvar_dat, ptab_some, plenO_dat, plenO_own, pfn_some, pstrV_str, frz1_own, frz1_dat, papp_own, pcop_list, ptry_ok, ptry_exc, ptry_bad, seqk_next, seqk_brk, seqk_cont, seqk_ret, seqk_exc, seqk_bad, seqk_ite, ifk_true, ifk_false, ifk_dec, ifk_not, ifk_exc, ifk_bad, ifk_ite, fink_ret, fink_next, fink_exc, fink_bad, fink_ite, upd_eq, upd_ne, bindPE_nil, bindPE_cons, none0_app, look_hit, look_ne, ok_bind, exc_bind, bad_bind, ite_bind, pcmp_eq_s, pcmp_ne_s, pcmp_eq_i, pcmp_ne_i, pcmp_lt, pcmp_gt, pcmp_ge, pbin_add_s, pbin_add_i, pbin_add_l, pbin_sub, pbin_mod, pbin_fdiv, pbool_b, pint_i, pstr_s, plen_s, plen_l, plen_t, plist_l, ofS_inj, String.reduceEq, String.reduceNe, List.zip_cons_cons, List.zip_nil_left, List.map_cons, List.map_nil, List.nil_append, List.append_nil, List.cons_append, ite_true, ite_false, decide_false, decide_true, Bool.not_true, Bool.not_false, or_true, true_or, or_false, false_or, or_self, and_self, and_true, true_and, and_false, false_and, not_true_eq_false, not_false_eq_true, reduceCtorEq, Bool.false_eq_true, Bool.true_eq_false, ← decide_not, decide_eq_true_eq, tx_inj, tx_len, ne_eq, Classical.not_not, eq13, eq10, eq1310, eq0, List.cons.injEq, C24_G, C24_F, W.sc, W.so, W.ta, W.si, W.tb, W.ke, W.pi, W.tx, pr, h]
  exact eM W' H g g' kt p
theorem eC (W : W2 sc d q nl d' q' nl' k K P T ρ) (H : ∀ i : Nat, i < 24 → ∃ x, pitem sc (i : Int) = .ok (.int x)) (g : Gd d q nl) (g' : Gd d' q' nl') (kt : Kt K) (p : Pk d q P K)
    (h1 : ρ (Str.ofString "there") = some (.dat (.tuple [.bool false, .str (tx (K.flatMap fun r => fmtRow d' q' r ++ nl'))]))) : fink (pex C24 N24c ρ) = .ok (.bool true) := by
  have hl := out_len d' q' nl' g'.l2 K
  have e20 := rd20 g' (Nat.lt_of_le_of_lt hl (Nat.lt_of_le_of_lt kt.sz (by decide))) (parse_fmt g'.D g'.hn K fun r hr => (kt.w r hr).ne)
  have e21 := wr21 g kt
  have e18 := f18_eq K d q nl g.l2 kt.w (Nat.le_trans kt.l3 (by decide))
  generalize (K.flatMap fun r => fmtRow d' q' r ++ nl') = X' at h1 e20
  generalize (K.flatMap fun r => fmtRow d q r ++ nl) = X at e21 e18
  unfold N24c
  simp -implicitDefEqProofs only [↓reduceIte, ↓pex_seq, pex_nil, pex_ret, pex_cont, pex_asg, pex_own, pex_pop, pex_cop, pex_app, pex_raise, pex_try, pex_frz, pex_if, pex_while, pex_frn, pex_rng, fq_ok, fq_exc, fk_next, fk_cont, fk_ret, fk_exc, fk_ite, fr_nil, pev_con, pev_var, pev_tab, pev_bin, pev_neg, pev_not, pev_bo, pev_cmp, pev_ty, pev_tup, pev_lst, pev_sub, pev_cut, pev_meth, pev_replC, pev_replV, pev_replD, pev_call, pev_len, pev_lenO, pev_lis, pevs_nil, pevs_cons, peo_no, peo_opt, ptest_eq, pbo_or, pbo_and, pbo_one, piter_l, piter_t, piter_s, prange_i, pvar_dat, ptab_some, plenO_dat, plenO_own, pfn_some, pstrV_str, frz1_own, frz1_dat, papp_own, pcop_list, ptry_ok, ptry_exc, ptry_bad, seqk_next, seqk_brk, seqk_cont, seqk_ret, seqk_exc, seqk_bad, seqk_ite, ifk_true, ifk_false, ifk_dec, ifk_not, ifk_exc, ifk_bad, ifk_ite, fink_ret, fink_next, fink_exc, fink_bad, fink_ite, upd_eq, upd_ne, bindPE_nil, bindPE_cons, none0_app, look_hit, look_ne, ok_bind, exc_bind, bad_bind, ite_bind, pcmp_eq_s, pcmp_ne_s, pcmp_eq_i, pcmp_ne_i, pcmp_lt, pcmp_gt, pcmp_ge, pbin_add_s, pbin_add_i, pbin_add_l, pbin_sub, pbin_mod, pbin_fdiv, pbool_b, pint_i, pstr_s, plen_s, plen_l, plen_t, plist_l, ofS_inj, String.reduceEq, String.reduceNe, List.zip_cons_cons, List.zip_nil_left, List.map_cons, List.map_nil, List.nil_append, List.append_nil, List.cons_append, ite_true, ite_false, decide_false, decide_true, Bool.not_true, Bool.not_false, or_true, true_or, or_false, false_or, or_self, and_self, and_true, true_and, and_false, false_and, not_true_eq_false, not_false_eq_true, reduceCtorEq, Bool.false_eq_true, Bool.true_eq_false, ← decide_not, decide_eq_true_eq, tx_inj, tx_len, ne_eq, Classical.not_not, eq13, eq10, eq1310, eq0, List.cons.injEq, C24_G, C24_F, W.sc, W.so, W.ta, W.si, W.tb, W.ke, W.pi, W.tx, h1, pr_0, pr_1, e20, f23_eq, e21, e18, two_le, pair_str, pcmp_ne_tab]
  exact eL (sc := sc) (d := d) (q := q) (nl := nl) (d' := d') (q' := q') (nl' := nl') (k := k) (K := K) (P := P) (T := T) (by constructor <;> (try constructor) <;> simp -implicitDefEqProofs only [upd_eq, upd_ne, String.reduceEq, not_false_eq_true, none0_app, W.sc, W.so, W.ta, W.si, W.tb, W.ke, W.pi, W.tx]) H g g' kt p
theorem eB (W : W2 sc d q nl d' q' nl' k K P T ρ) (H : ∀ i : Nat, i < 24 → ∃ x, pitem sc (i : Int) = .ok (.int x)) (g : Gd d q nl) (g' : Gd d' q' nl') (kt : Kt K) (p : Pk d q P K)
    (h1 : ρ (Str.ofString "first") = some (.dat (.tuple [.bool false, tabd K]))) : fink (pex C24 N24b ρ) = .ok (.bool true) := by
  have e21 := wr21 g' kt
  have e18 := f18_eq K d' q' nl' g'.l2 kt.w (Nat.le_trans kt.l3 (by decide))
  unfold N24b
  simp -implicitDefEqProofs only [↓reduceIte, ↓pex_seq, pex_nil, pex_ret, pex_cont, pex_asg, pex_own, pex_pop, pex_cop, pex_app, pex_raise, pex_try, pex_frz, pex_if, pex_while, pex_frn, pex_rng, fq_ok, fq_exc, fk_next, fk_cont, fk_ret, fk_exc, fk_ite, fr_nil, pev_con, pev_var, pev_tab, pev_bin, pev_neg, pev_not, pev_bo, pev_cmp, pev_ty, pev_tup, pev_lst, pev_sub, pev_cut, pev_meth, pev_replC, pev_replV, pev_replD, pev_call, pev_len, pev_lenO, pev_lis, pevs_nil, pevs_cons, peo_no, peo_opt, ptest_eq, pbo_or, pbo_and, pbo_one, piter_l, piter_t, piter_s, prange_i, pvar_dat, ptab_some, plenO_dat, plenO_own, pfn_some, pstrV_str, frz1_own, frz1_dat, papp_own, pcop_list, ptry_ok, ptry_exc, ptry_bad, seqk_next, seqk_brk, seqk_cont, seqk_ret, seqk_exc, seqk_bad, seqk_ite, ifk_true, ifk_false, ifk_dec, ifk_not, ifk_exc, ifk_bad, ifk_ite, fink_ret, fink_next, fink_exc, fink_bad, fink_ite, upd_eq, upd_ne, bindPE_nil, bindPE_cons, none0_app, look_hit, look_ne, ok_bind, exc_bind, bad_bind, ite_bind, pcmp_eq_s, pcmp_ne_s, pcmp_eq_i, pcmp_ne_i, pcmp_lt, pcmp_gt, pcmp_ge, pbin_add_s, pbin_add_i, pbin_add_l, pbin_sub, pbin_mod, pbin_fdiv, pbool_b, pint_i, pstr_s, plen_s, plen_l, plen_t, plist_l, ofS_inj, String.reduceEq, String.reduceNe, List.zip_cons_cons, List.zip_nil_left, List.map_cons, List.map_nil, List.nil_append, List.append_nil, List.cons_append, ite_true, ite_false, decide_false, decide_true, Bool.not_true, Bool.not_false, or_true, true_or, or_false, false_or, or_self, and_self, and_true, true_and, and_false, false_and, not_true_eq_false, not_false_eq_true, reduceCtorEq, Bool.false_eq_true, Bool.true_eq_false, ← decide_not, decide_eq_true_eq, tx_inj, tx_len, ne_eq, Classical.not_not, eq13, eq10, eq1310, eq0, List.cons.injEq, C24_G, C24_F, W.sc, W.so, W.ta, W.si, W.tb, W.ke, W.pi, W.tx, h1, pr_1, e21, e18, two_le, pair_str, pcmp_ne_tab]
  exact eC (sc := sc) (d := d) (q := q) (nl := nl) (d' := d') (q' := q') (nl' := nl') (k := k) (K := K) (P := P) (T := T) (by constructor <;> (try constructor) <;> simp -implicitDefEqProofs only [upd_eq, upd_ne, String.reduceEq, not_false_eq_true, none0_app, W.sc, W.so, W.ta, W.si, W.tb, W.ke, W.pi, W.tx]) H g g' kt p (by simp -implicitDefEqProofs only [upd_eq, upd_ne, String.reduceEq, not_false_eq_true, none0_app])
theorem eN (W : W2 sc d q nl d' q' nl' k K P T ρ) (H : ∀ i : Nat, i < 24 → ∃ x, pitem sc (i : Int) = .ok (.int x)) (g : Gd d q nl) (g' : Gd d' q' nl') (kt : Kt K) (p : Pk d q P K) (lT : T.length < 1000000) (pT : parse d q T = some K) : fink (pex C24 N24 ρ) = .ok (.bool true) := by
  have e20 := rd20 g lT pT
  unfold N24
  simp -implicitDefEqProofs only [↓reduceIte, ↓pex_seq, pex_nil, pex_ret, pex_cont, pex_asg, pex_own, pex_pop, pex_cop, pex_app, pex_raise, pex_try, pex_frz, pex_if, pex_while, pex_frn, pex_rng, fq_ok, fq_exc, fk_next, fk_cont, fk_ret, fk_exc, fk_ite, fr_nil, pev_con, pev_var, pev_tab, pev_bin, pev_neg, pev_not, pev_bo, pev_cmp, pev_ty, pev_tup, pev_lst, pev_sub, pev_cut, pev_meth, pev_replC, pev_replV, pev_replD, pev_call, pev_len, pev_lenO, pev_lis, pevs_nil, pevs_cons, peo_no, peo_opt, ptest_eq, pbo_or, pbo_and, pbo_one, piter_l, piter_t, piter_s, prange_i, pvar_dat, ptab_some, plenO_dat, plenO_own, pfn_some, pstrV_str, frz1_own, frz1_dat, papp_own, pcop_list, ptry_ok, ptry_exc, ptry_bad, seqk_next, seqk_brk, seqk_cont, seqk_ret, seqk_exc, seqk_bad, seqk_ite, ifk_true, ifk_false, ifk_dec, ifk_not, ifk_exc, ifk_bad, ifk_ite, fink_ret, fink_next, fink_exc, fink_bad, fink_ite, upd_eq, upd_ne, bindPE_nil, bindPE_cons, none0_app, look_hit, look_ne, ok_bind, exc_bind, bad_bind, ite_bind, pcmp_eq_s, pcmp_ne_s, pcmp_eq_i, pcmp_ne_i, pcmp_lt, pcmp_gt, pcmp_ge, pbin_add_s, pbin_add_i, pbin_add_l, pbin_sub, pbin_mod, pbin_fdiv, pbool_b, pint_i, pstr_s, plen_s, plen_l, plen_t, plist_l, ofS_inj, String.reduceEq, String.reduceNe, List.zip_cons_cons, List.zip_nil_left, List.map_cons, List.map_nil, List.nil_append, List.append_nil, List.cons_append, ite_true, ite_false, decide_false, decide_true, Bool.not_true, Bool.not_false, or_true, true_or, or_false, false_or, or_self, and_self, and_true, true_and, and_false, false_and, not_true_eq_false, not_false_eq_true, reduceCtorEq, Bool.false_eq_true, Bool.true_eq_false, ← decide_not, decide_eq_true_eq, tx_inj, tx_len, ne_eq, Classical.not_not, eq13, eq10, eq1310, eq0, List.cons.injEq, C24_G, C24_F, W.sc, W.so, W.ta, W.si, W.tb, W.ke, W.pi, W.tx, e20, pr_0, pr_1, f23_eq]
  exact eB (sc := sc) (d := d) (q := q) (nl := nl) (d' := d') (q' := q') (nl' := nl') (k := k) (K := K) (P := P) (T := T) (by constructor <;> (try constructor) <;> simp -implicitDefEqProofs only [upd_eq, upd_ne, String.reduceEq, not_false_eq_true, none0_app, W.sc, W.so, W.ta, W.si, W.tb, W.ke, W.pi, W.tx]) H g g' kt p (by simp -implicitDefEqProofs only [upd_eq, upd_ne, String.reduceEq, not_false_eq_true, none0_app])
theorem eT (W : W1 sc d q nl d' q' nl' k K P ρ) (H : ∀ i : Nat, i < 24 → ∃ x, pitem sc (i : Int) = .ok (.int x)) (g : Gd d q nl) (g' : Gd d' q' nl') (kt : Kt K) (p : Pk d q P K) : fink (pex C24 T24 ρ) = .ok (.bool true) := by
  have hL : LIM = 16777216 := rfl
  have l3 := kt.l3
  have psz := p.sz
  have q1 := join_flat P (by omega)
  have n2 : ((2 : Int) = 0) = False := eq_false (by decide)
  obtain ⟨i, hi, ei⟩ := fmod_small (k : Int) 2 (by decide)
  have ei' : ((k : Nat) : Int).fmod 2 = (i : Int) := ei
  unfold T24
  have hi2 : i = 0 ∨ i = 1 := by omega
  rcases hi2 with rfl | rfl
  · have c1 : (((0 : Nat) : Int) = 1) = False := eq_false (by decide)
    simp -implicitDefEqProofs only [↓reduceIte, ↓pex_seq, pex_nil, pex_ret, pex_cont, pex_asg, pex_own, pex_pop, pex_cop, pex_app, pex_raise, pex_try, pex_frz, pex_if, pex_while, pex_frn, pex_rng, fq_ok, fq_exc, fk_next, fk_cont, fk_ret, fk_exc, fk_ite, fr_nil, pev_con, pev_var, pev_tab, pev_bin, pev_neg, pev_not, pev_bo, pev_cmp, pev_ty, pev_tup, pev_lst, pev_sub, pev_cut, pev_meth, pev_replC, pev_replV, pev_replD, pev_call, pev_len, pev_lenO, pev_lis, pevs_nil, pevs_cons, peo_no, peo_opt, ptest_eq, pbo_or, pbo_and, pbo_one, piter_l, piter_t, piter_s, prange_i, pvar_dat, ptab_some, plenO_dat, plenO_own, pfn_some, pstrV_str, frz1_own, frz1_dat, papp_own, pcop_list, ptry_ok, ptry_exc, ptry_bad, seqk_next, seqk_brk, seqk_cont, seqk_ret, seqk_exc, seqk_bad, seqk_ite, ifk_true, ifk_false, ifk_dec, ifk_not, ifk_exc, ifk_bad, ifk_ite, fink_ret, fink_next, fink_exc, fink_bad, fink_ite, upd_eq, upd_ne, bindPE_nil, bindPE_cons, none0_app, look_hit, look_ne, ok_bind, exc_bind, bad_bind, ite_bind, pcmp_eq_s, pcmp_ne_s, pcmp_eq_i, pcmp_ne_i, pcmp_lt, pcmp_gt, pcmp_ge, pbin_add_s, pbin_add_i, pbin_add_l, pbin_sub, pbin_mod, pbin_fdiv, pbool_b, pint_i, pstr_s, plen_s, plen_l, plen_t, plist_l, ofS_inj, String.reduceEq, String.reduceNe, List.zip_cons_cons, List.zip_nil_left, List.map_cons, List.map_nil, List.nil_append, List.append_nil, List.cons_append, ite_true, ite_false, decide_false, decide_true, Bool.not_true, Bool.not_false, or_true, true_or, or_false, false_or, or_self, and_self, and_true, true_and, and_false, false_and, not_true_eq_false, not_false_eq_true, reduceCtorEq, Bool.false_eq_true, Bool.true_eq_false, ← decide_not, decide_eq_true_eq, tx_inj, tx_len, ne_eq, Classical.not_not, eq13, eq10, eq1310, eq0, List.cons.injEq, C24_G, C24_F, W.sc, W.so, W.ta, W.si, W.tb, W.ke, W.pi, q1, n2, ei', c1]
    exact eN (sc := sc) (d := d) (q := q) (nl := nl) (d' := d') (q' := q') (nl' := nl') (k := k) (K := K) (P := P) (T := P.flatten) (by constructor <;> (try constructor) <;> simp -implicitDefEqProofs only [upd_eq, upd_ne, String.reduceEq, not_false_eq_true, none0_app, W.sc, W.so, W.ta, W.si, W.tb, W.ke, W.pi]) H g g' kt p (by omega) (rd_parse p.rd)
  · have c1 : (((1 : Nat) : Int) = 1) = True := eq_true rfl
    obtain ⟨a, z, e, hz, ha, pa⟩ := p.op
    have q3 : pmeth .rstrip (tx P.flatten) (.str (Str.ofString "\r\n")) = .ok (.str (tx a)) := by
      show (if (tx P.flatten).length ≤ LIM then Out.ok (PyData.str (Txt.rstripChars (tx P.flatten) (Str.ofString "\r\n"))) else .bad) = _
      rw [if_pos (by rw [tx_len]; omega), e, rstrip_tx a z hz ha]
    have la : a.length ≤ P.flatten.length := by rw [e, List.length_append]; omega
    simp -implicitDefEqProofs only [↓reduceIte, ↓pex_seq, pex_nil, pex_ret, pex_cont, pex_asg, pex_own, pex_pop, pex_cop, pex_app, pex_raise, pex_try, pex_frz, pex_if, pex_while, pex_frn, pex_rng, fq_ok, fq_exc, fk_next, fk_cont, fk_ret, fk_exc, fk_ite, fr_nil, pev_con, pev_var, pev_tab, pev_bin, pev_neg, pev_not, pev_bo, pev_cmp, pev_ty, pev_tup, pev_lst, pev_sub, pev_cut, pev_meth, pev_replC, pev_replV, pev_replD, pev_call, pev_len, pev_lenO, pev_lis, pevs_nil, pevs_cons, peo_no, peo_opt, ptest_eq, pbo_or, pbo_and, pbo_one, piter_l, piter_t, piter_s, prange_i, pvar_dat, ptab_some, plenO_dat, plenO_own, pfn_some, pstrV_str, frz1_own, frz1_dat, papp_own, pcop_list, ptry_ok, ptry_exc, ptry_bad, seqk_next, seqk_brk, seqk_cont, seqk_ret, seqk_exc, seqk_bad, seqk_ite, ifk_true, ifk_false, ifk_dec, ifk_not, ifk_exc, ifk_bad, ifk_ite, fink_ret, fink_next, fink_exc, fink_bad, fink_ite, upd_eq, upd_ne, bindPE_nil, bindPE_cons, none0_app, look_hit, look_ne, ok_bind, exc_bind, bad_bind, ite_bind, pcmp_eq_s, pcmp_ne_s, pcmp_eq_i, pcmp_ne_i, pcmp_lt, pcmp_gt, pcmp_ge, pbin_add_s, pbin_add_i, pbin_add_l, pbin_sub, pbin_mod, pbin_fdiv, pbool_b, pint_i, pstr_s, plen_s, plen_l, plen_t, plist_l, ofS_inj, String.reduceEq, String.reduceNe, List.zip_cons_cons, List.zip_nil_left, List.map_cons, List.map_nil, List.nil_append, List.append_nil, List.cons_append, ite_true, ite_false, decide_false, decide_true, Bool.not_true, Bool.not_false, or_true, true_or, or_false, false_or, or_self, and_self, and_true, true_and, and_false, false_and, not_true_eq_false, not_false_eq_true, reduceCtorEq, Bool.false_eq_true, Bool.true_eq_false, ← decide_not, decide_eq_true_eq, tx_inj, tx_len, ne_eq, Classical.not_not, eq13, eq10, eq1310, eq0, List.cons.injEq, C24_G, C24_F, W.sc, W.so, W.ta, W.si, W.tb, W.ke, W.pi, q1, n2, ei', c1, q3]
    exact eN (sc := sc) (d := d) (q := q) (nl := nl) (d' := d') (q' := q') (nl' := nl') (k := k) (K := K) (P := P) (T := a) (by constructor <;> (try constructor) <;> simp -implicitDefEqProofs only [upd_eq, upd_ne, String.reduceEq, not_false_eq_true, none0_app, W.sc, W.so, W.ta, W.si, W.tb, W.ke, W.pi]) H g g' kt p (by omega) pa
theorem tab3 (a b c : List (List Nat)) : PyData.list [rowd a, rowd b, rowd c] = tabd [a, b, c] := rfl
theorem f24_eq (ns : List Int) (hns : ns.length ≤ 63) : f24 [.list (ns.map .int)] = .ok (.bool true) := by
  have hL : LIM = 16777216 := rfl
  have l0 : ((ns.map PyData.int).length ≤ LIM) = True := eq_true (by rw [List.length_map]; omega)
  unfold f24 B24
  rw [pcall_fin _ _ _ _ rfl]
  by_cases hl : 24 ≤ ns.length
  rotate_left
  · have hs : (((ns.map PyData.int).length : Int) < 24) = True := eq_true (by rw [List.length_map]; omega)
    simp -implicitDefEqProofs only [↓reduceIte, ↓pex_seq, pex_nil, pex_ret, pex_cont, pex_asg, pex_own, pex_pop, pex_cop, pex_app, pex_raise, pex_try, pex_frz, pex_if, pex_while, pex_frn, pex_rng, fq_ok, fq_exc, fk_next, fk_cont, fk_ret, fk_exc, fk_ite, fr_nil, pev_con, pev_var, pev_tab, pev_bin, pev_neg, pev_not, pev_bo, pev_cmp, pev_ty, pev_tup, pev_lst, pev_sub, pev_cut, pev_meth, pev_replC, pev_replV, pev_replD, pev_call, pev_len, pev_lenO, pev_lis, pevs_nil, pevs_cons, peo_no, peo_opt, ptest_eq, pbo_or, pbo_and, pbo_one, piter_l, piter_t, piter_s, prange_i, pvar_dat, ptab_some, plenO_dat, plenO_own, pfn_some, pstrV_str, frz1_own, frz1_dat, papp_own, pcop_list, ptry_ok, ptry_exc, ptry_bad, seqk_next, seqk_brk, seqk_cont, seqk_ret, seqk_exc, seqk_bad, seqk_ite, ifk_true, ifk_false, ifk_dec, ifk_not, ifk_exc, ifk_bad, ifk_ite, fink_ret, fink_next, fink_exc, fink_bad, fink_ite, upd_eq, upd_ne, bindPE_nil, bindPE_cons, none0_app, look_hit, look_ne, ok_bind, exc_bind, bad_bind, ite_bind, pcmp_eq_s, pcmp_ne_s, pcmp_eq_i, pcmp_ne_i, pcmp_lt, pcmp_gt, pcmp_ge, pbin_add_s, pbin_add_i, pbin_add_l, pbin_sub, pbin_mod, pbin_fdiv, pbool_b, pint_i, pstr_s, plen_s, plen_l, plen_t, plist_l, ofS_inj, String.reduceEq, String.reduceNe, List.zip_cons_cons, List.zip_nil_left, List.map_cons, List.map_nil, List.nil_append, List.append_nil, List.cons_append, ite_true, ite_false, decide_false, decide_true, Bool.not_true, Bool.not_false, or_true, true_or, or_false, false_or, or_self, and_self, and_true, true_and, and_false, false_and, not_true_eq_false, not_false_eq_true, reduceCtorEq, Bool.false_eq_true, Bool.true_eq_false, ← decide_not, decide_eq_true_eq, tx_inj, tx_len, ne_eq, Classical.not_not, eq13, eq10, eq1310, eq0, List.cons.injEq, C24_G, C24_F, l0, hs]
  have hs : (((ns.map PyData.int).length : Int) < 24) = False := eq_false (by rw [List.length_map]; omega)
  have H : ∀ k : Nat, k < 24 → ∃ x, pitem (.list (ns.map .int)) (k : Int) = .ok (.int x) := fun k hk => ⟨_, pitem_list _ k _ (by rw [List.getElem?_map, List.getElem?_eq_getElem (by omega), Option.map_some]) (by omega)⟩
  simp -implicitDefEqProofs only [↓reduceIte, ↓pex_seq, pex_nil, pex_ret, pex_cont, pex_asg, pex_own, pex_pop, pex_cop, pex_app, pex_raise, pex_try, pex_frz, pex_if, pex_while, pex_frn, pex_rng, fq_ok, fq_exc, fk_next, fk_cont, fk_ret, fk_exc, fk_ite, fr_nil, pev_con, pev_var, pev_tab, pev_bin, pev_neg, pev_not, pev_bo, pev_cmp, pev_ty, pev_tup, pev_lst, pev_sub, pev_cut, pev_meth, pev_replC, pev_replV, pev_replD, pev_call, pev_len, pev_lenO, pev_lis, pevs_nil, pevs_cons, peo_no, peo_opt, ptest_eq, pbo_or, pbo_and, pbo_one, piter_l, piter_t, piter_s, prange_i, pvar_dat, ptab_some, plenO_dat, plenO_own, pfn_some, pstrV_str, frz1_own, frz1_dat, papp_own, pcop_list, ptry_ok, ptry_exc, ptry_bad, seqk_next, seqk_brk, seqk_cont, seqk_ret, seqk_exc, seqk_bad, seqk_ite, ifk_true, ifk_false, ifk_dec, ifk_not, ifk_exc, ifk_bad, ifk_ite, fink_ret, fink_next, fink_exc, fink_bad, fink_ite, upd_eq, upd_ne, bindPE_nil, bindPE_cons, none0_app, look_hit, look_ne, ok_bind, exc_bind, bad_bind, ite_bind, pcmp_eq_s, pcmp_ne_s, pcmp_eq_i, pcmp_ne_i, pcmp_lt, pcmp_gt, pcmp_ge, pbin_add_s, pbin_add_i, pbin_add_l, pbin_sub, pbin_mod, pbin_fdiv, pbool_b, pint_i, pstr_s, plen_s, plen_l, plen_t, plist_l, ofS_inj, String.reduceEq, String.reduceNe, List.zip_cons_cons, List.zip_nil_left, List.map_cons, List.map_nil, List.nil_append, List.append_nil, List.cons_append, ite_true, ite_false, decide_false, decide_true, Bool.not_true, Bool.not_false, or_true, true_or, or_false, false_or, or_self, and_self, and_true, true_and, and_false, false_and, not_true_eq_false, not_false_eq_true, reduceCtorEq, Bool.false_eq_true, Bool.true_eq_false, ← decide_not, decide_eq_true_eq, tx_inj, tx_len, ne_eq, Classical.not_not, eq13, eq10, eq1310, eq0, List.cons.injEq, C24_G, C24_F, l0, hs]
  generalize PyData.list (ns.map .int) = sc at H ⊢
  have A : ∀ ρ, ρ (Str.ofString "script") = some (.dat sc) → fink (pex C24 A24 ρ) = .ok (.bool true) := by
    intro ρ hsc
    obtain ⟨x0, i0⟩ := H 0 (by decide)
    have j0 : pitem sc 0 = .ok (.int x0) := i0
    obtain ⟨x1, i1⟩ := H 1 (by decide)
    have j1 : pitem sc 1 = .ok (.int x1) := i1
    obtain ⟨x2, i2⟩ := H 2 (by decide)
    have j2 : pitem sc 2 = .ok (.int x2) := i2
    obtain ⟨x6, i6⟩ := H 6 (by decide)
    have j6 : pitem sc 6 = .ok (.int x6) := i6
    obtain ⟨x7, i7⟩ := H 7 (by decide)
    have j7 : pitem sc 7 = .ok (.int x7) := i7
    obtain ⟨x8, i8⟩ := H 8 (by decide)
    have j8 : pitem sc 8 = .ok (.int x8) := i8
    obtain ⟨x9, i9⟩ := H 9 (by decide)
    have j9 : pitem sc 9 = .ok (.int x9) := i9
    obtain ⟨x10, i10⟩ := H 10 (by decide)
    have j10 : pitem sc 10 = .ok (.int x10) := i10
    obtain ⟨x11, i11⟩ := H 11 (by decide)
    have j11 : pitem sc 11 = .ok (.int x11) := i11
    obtain ⟨x12, i12⟩ := H 12 (by decide)
    have j12 : pitem sc 12 = .ok (.int x12) := i12
    obtain ⟨x13, i13⟩ := H 13 (by decide)
    have j13 : pitem sc 13 = .ok (.int x13) := i13
    obtain ⟨x14, i14⟩ := H 14 (by decide)
    have j14 : pitem sc 14 = .ok (.int x14) := i14
    obtain ⟨x15, i15⟩ := H 15 (by decide)
    have j15 : pitem sc 15 = .ok (.int x15) := i15
    obtain ⟨x16, i16⟩ := H 16 (by decide)
    have j16 : pitem sc 16 = .ok (.int x16) := i16
    obtain ⟨x17, i17⟩ := H 17 (by decide)
    have j17 : pitem sc 17 = .ok (.int x17) := i17
    obtain ⟨x18, i18⟩ := H 18 (by decide)
    have j18 : pitem sc 18 = .ok (.int x18) := i18
    obtain ⟨x19, i19⟩ := H 19 (by decide)
    have j19 : pitem sc 19 = .ok (.int x19) := i19
    obtain ⟨x20, i20⟩ := H 20 (by decide)
    have j20 : pitem sc 20 = .ok (.int x20) := i20
    obtain ⟨x21, i21⟩ := H 21 (by decide)
    have j21 : pitem sc 21 = .ok (.int x21) := i21
    obtain ⟨x22, i22⟩ := H 22 (by decide)
    have j22 : pitem sc 22 = .ok (.int x22) := i22
    obtain ⟨x23, i23⟩ := H 23 (by decide)
    have j23 : pitem sc 23 = .ok (.int x23) := i23
    obtain ⟨m0, h0, e0⟩ := fmod_small x0 6 (by decide)
    have g0 : x0.fmod 6 = (m0 : Int) := e0
    obtain ⟨m1, h1, e1⟩ := fmod_small x1 6 (by decide)
    have g1 : x1.fmod 6 = (m1 : Int) := e1
    obtain ⟨m2, h2, e2⟩ := fmod_small x2 8 (by decide)
    have g2 : x2.fmod 8 = (m2 : Int) := e2
    obtain ⟨m6, h6, e6⟩ := fmod_small x6 5 (by decide)
    have g6 : x6.fmod 5 = (m6 : Int) := e6
    obtain ⟨m12, h12, e12⟩ := fmod_small x12 5 (by decide)
    have g12 : x12.fmod 5 = (m12 : Int) := e12
    obtain ⟨m18, h18, e18⟩ := fmod_small x18 5 (by decide)
    have g18 : x18.fmod 5 = (m18 : Int) := e18
    obtain ⟨m11, h11, e11⟩ := fmod_small x11 6 (by decide)
    have g11 : x11.fmod 6 = (m11 : Int) := e11
    obtain ⟨m17, h17, e17⟩ := fmod_small x17 6 (by decide)
    have g17 : x17.fmod 6 = (m17 : Int) := e17
    obtain ⟨m23, h23, e23⟩ := fmod_small x23 6 (by decide)
    have g23 : x23.fmod 6 = (m23 : Int) := e23
    have n5 : ((5 : Int) = 0) = False := eq_false (by decide)
    have n6 : ((6 : Int) = 0) = False := eq_false (by decide)
    have n8 : ((8 : Int) = 0) = False := eq_false (by decide)
    obtain ⟨d, q, nl, pD, g⟩ := dia_at h0
    obtain ⟨d', q', nl', pD', g'⟩ := dia_at h1
    obtain ⟨r1, f1, w1⟩ := f15_eq m6 x7 x8 x9 x10 h6
    obtain ⟨r2, f2, w2⟩ := f15_eq m12 x13 x14 x15 x16 h12
    obtain ⟨r3, f3, w3⟩ := f15_eq m18 x19 x20 x21 x22 h18
    have l4 : ∀ a b c e : PyData, (([a, b, c, e] : List PyData).length ≤ LIM) = True := fun _ _ _ _ => eq_true (by show 4 ≤ LIM; decide)
    have l3 : ∀ a b c : PyData, (([a, b, c] : List PyData).length ≤ LIM) = True := fun _ _ _ => eq_true (by show 3 ≤ LIM; decide)
    have cd : ((0 : Int) < 2 ∧ (2 : Int) < 1000 ∧ (0 : Int) ≤ (m2 : Int) ∧ (m2 : Int) < 1000000) = True := eq_true ⟨by decide, by decide, by omega, by omega⟩
    have fd : ((m2 : Nat) : Int).fdiv 2 = ((m2 / 2 : Nat) : Int) := by
      rw [Int.fdiv_eq_ediv_of_nonneg _ (by decide)]; rfl
    have pc := pcut_tt [r1, r2, r3] (m2 / 2) (by show 3 ≤ LIM; decide)
    have kt : Kt ([r1, r2, r3].take (m2 / 2)) := ⟨by rw [List.length_take]; exact Nat.min_le_right _ _, fun r hr => by
      have := List.mem_of_mem_take hr
      rcases List.mem_cons.mp this with rfl | this
      · exact w1
      rcases List.mem_cons.mp this with rfl | this
      · exact w2
      rw [List.mem_singleton.mp this]
      exact w3⟩
    generalize [r1, r2, r3].take (m2 / 2) = K at pc kt
    have k3 := kt.l3
    have pcp : ∀ (ρ : PE) (x : Str), pcop ρ x (tabd K) = .ok (.next, upd ρ x (.dat (tabd K))) := fun ρ x => pcop_tab x K (by omega) fun r hr => Nat.le_trans (kt.w r hr).l5 (by decide)
    have pz : pzip [tabd K, .tuple [.int (m11 : Int), .int (m17 : Int), .int (m23 : Int)]] = .ok (zipD (K.map rowd) ([m11, m17, m23].map fun (s : Nat) => PyData.int (s : Int))) := pzip_tab K _ k3
    have go : ∀ ρ, W1 sc d q nl d' q' nl' m2 K [] ρ → fink (seqk C24 T24 (fr C24 ["row", "style"] F24 (zipD (K.map rowd) ([m11, m17, m23].map fun (s : Nat) => PyData.int (s : Int))) ρ)) = .ok (.bool true) := by
      intro ρ W
      obtain ⟨ρ', P', e, W', p⟩ := loop24 g K [m11, m17, m23] [] [] ρ W Pk.nil k3 (by rw [List.length_nil]; omega) kt.w
      rw [e, seqk_next]
      exact eT W' H g g' kt p
    generalize zipD (K.map rowd) ([m11, m17, m23].map fun (s : Nat) => PyData.int (s : Int)) = Z at pz go
    unfold A24
    simp -implicitDefEqProofs only [↓reduceIte, ↓pex_seq, pex_nil, pex_ret, pex_cont, pex_asg, pex_own, pex_pop, pex_cop, pex_app, pex_raise, pex_try, pex_frz, pex_if, pex_while, pex_frn, pex_rng, fq_ok, fq_exc, fk_next, fk_cont, fk_ret, fk_exc, fk_ite, fr_nil, pev_con, pev_var, pev_tab, pev_bin, pev_neg, pev_not, pev_bo, pev_cmp, pev_ty, pev_tup, pev_lst, pev_sub, pev_cut, pev_meth, pev_replC, pev_replV, pev_replD, pev_call, pev_len, pev_lenO, pev_lis, pevs_nil, pevs_cons, peo_no, peo_opt, ptest_eq, pbo_or, pbo_and, pbo_one, piter_l, piter_t, piter_s, prange_i, pvar_dat, ptab_some, plenO_dat, plenO_own, pfn_some, pstrV_str, frz1_own, frz1_dat, papp_own, pcop_list, ptry_ok, ptry_exc, ptry_bad, seqk_next, seqk_brk, seqk_cont, seqk_ret, seqk_exc, seqk_bad, seqk_ite, ifk_true, ifk_false, ifk_dec, ifk_not, ifk_exc, ifk_bad, ifk_ite, fink_ret, fink_next, fink_exc, fink_bad, fink_ite, upd_eq, upd_ne, bindPE_nil, bindPE_cons, none0_app, look_hit, look_ne, ok_bind, exc_bind, bad_bind, ite_bind, pcmp_eq_s, pcmp_ne_s, pcmp_eq_i, pcmp_ne_i, pcmp_lt, pcmp_gt, pcmp_ge, pbin_add_s, pbin_add_i, pbin_add_l, pbin_sub, pbin_mod, pbin_fdiv, pbool_b, pint_i, pstr_s, plen_s, plen_l, plen_t, plist_l, ofS_inj, String.reduceEq, String.reduceNe, List.zip_cons_cons, List.zip_nil_left, List.map_cons, List.map_nil, List.nil_append, List.append_nil, List.cons_append, ite_true, ite_false, decide_false, decide_true, Bool.not_true, Bool.not_false, or_true, true_or, or_false, false_or, or_self, and_self, and_true, true_and, and_false, false_and, not_true_eq_false, not_false_eq_true, reduceCtorEq, Bool.false_eq_true, Bool.true_eq_false, ← decide_not, decide_eq_true_eq, tx_inj, tx_len, ne_eq, Classical.not_not, eq13, eq10, eq1310, eq0, List.cons.injEq, C24_G, C24_F, pex_zip, hsc, j0, j1, j2, j6, j7, j8, j9, j10, j11, j12, j13, j14, j15, j16, j17, j18, j19, j20, j21, j22, j23, g0, g1, g2, g6, g12, g18, g11, g17, g23, n5, n6, n8, pD, pD', f1, f2, f3, l4, l3, cd, fd, tab3, pc, pcp, nil_le, pz]
    exact go _ (by constructor <;> simp -implicitDefEqProofs only [upd_eq, upd_ne, String.reduceEq, not_false_eq_true, none0_app, hsc] <;> rfl)
  exact A _ (by simp -implicitDefEqProofs only [upd_eq, upd_ne, String.reduceEq, not_false_eq_true, none0_app])
end
end Mine

open PySem PyProof.Rows PySem.W
set_option maxRecDepth 100000
set_option maxHeartbeats 4000000
namespace Mine
theorem lns1 {α : Type} {l : List α} (h : l.length = 1) : ∃ a, l = [a] := List.length_eq_one_iff.mp h
theorem lns2 {α : Type} {l : List α} (h : l.length = 2) : ∃ a b, l = [a, b] := by
  cases l with
  | nil => cases h
  | cons a l => obtain ⟨b, rfl⟩ := lns1 (Nat.succ.inj h); exact ⟨a, b, rfl⟩
theorem lns3 {α : Type} {l : List α} (h : l.length = 3) : ∃ a b c, l = [a, b, c] := by
  cases l with
  | nil => cases h
  | cons a l => obtain ⟨b, c, rfl⟩ := lns2 (Nat.succ.inj h); exact ⟨a, b, c, rfl⟩
theorem lns4 {α : Type} {l : List α} (h : l.length = 4) : ∃ a b c d, l = [a, b, c, d] := by
  cases l with
  | nil => cases h
  | cons a l => obtain ⟨b, c, d, rfl⟩ := lns3 (Nat.succ.inj h); exact ⟨a, b, c, d, rfl⟩
theorem lns5 {α : Type} {l : List α} (h : l.length = 5) : ∃ a b c d e, l = [a, b, c, d, e] := by
  cases l with
  | nil => cases h
  | cons a l => obtain ⟨b, c, d, e, rfl⟩ := lns4 (Nat.succ.inj h); exact ⟨a, b, c, d, e, rfl⟩
theorem lns6 {α : Type} {l : List α} (h : l.length = 6) : ∃ a b c d e f, l = [a, b, c, d, e, f] := by
  cases l with
  | nil => cases h
  | cons a l => obtain ⟨b, c, d, e, f, rfl⟩ := lns5 (Nat.succ.inj h); exact ⟨a, b, c, d, e, f, rfl⟩
section
variable {prog p : Program} {w : World} {base0 : Heap} {mg mb : Str → Option Value} {t0 n : Nat} {loose : List Str} {mean : ExcName → Option Value}

theorem ok1 : defOk (drec PySem.Challenge.pw_sx_r001_1 1) ["c"] B1 = true := by decide +kernel
theorem nm1 : (drec PySem.Challenge.pw_sx_r001_1 1).name = Str.ofString "_is_line_char" := rfl
theorem bd1 (pm cd doc : Value) (vs : List Value) (h : vs.length = ["c"].length) : bindArgs (Calls.docDef (drec PySem.Challenge.pw_sx_r001_1 1).name (drec PySem.Challenge.pw_sx_r001_1 1).params (drec PySem.Challenge.pw_sx_r001_1 1).body (drec PySem.Challenge.pw_sx_r001_1 1).scope pm cd doc) ⟨vs, []⟩ = pure ((["c"].map Str.ofString).zip vs) := by
  obtain ⟨a0, rfl⟩ := lns1 h
  rfl
theorem link1 (T : Top p loose mean mg mb base0) (ht : 0 < t0) (hb : ∀ x ∈ bnames, mg (Str.ofString x) = none)
    (hd : drec PySem.Challenge.pw_sx_r001_1 1 ∈ recsOf p)  :
    ∃ a, mg (Str.ofString "_is_line_char") = some (.ref a) ∧ CallOK prog w base0 t0 (n + 1) a f1 := by
  rw [← nm1]
  exact def_top T ["c"] C1 B1 (glo_mk T [] [] ht (fun q hq => nomatch hq) (by intro q hq; cases hq) hb) _ hd ok1 bd1

theorem ok2 : defOk (drec PySem.Challenge.pw_sx_r001_1 2) ["dialect"] B2 = true := by decide +kernel
theorem nm2 : (drec PySem.Challenge.pw_sx_r001_1 2).name = Str.ofString "_check_dialect" := rfl
theorem bd2 (pm cd doc : Value) (vs : List Value) (h : vs.length = ["dialect"].length) : bindArgs (Calls.docDef (drec PySem.Challenge.pw_sx_r001_1 2).name (drec PySem.Challenge.pw_sx_r001_1 2).params (drec PySem.Challenge.pw_sx_r001_1 2).body (drec PySem.Challenge.pw_sx_r001_1 2).scope pm cd doc) ⟨vs, []⟩ = pure ((["dialect"].map Str.ofString).zip vs) := by
  obtain ⟨a0, rfl⟩ := lns1 h
  rfl
theorem link2 (T : Top p loose mean mg mb base0) (ht : 0 < t0) (hb : ∀ x ∈ bnames, mg (Str.ofString x) = none)
    (hd : drec PySem.Challenge.pw_sx_r001_1 2 ∈ recsOf p) (h0 : ∃ a, mg (Str.ofString "_is_line_char") = some (.ref a) ∧ CallOK prog w base0 t0 n a f1) :
    ∃ a, mg (Str.ofString "_check_dialect") = some (.ref a) ∧ CallOK prog w base0 t0 (n + 1) a f2 := by
  rw [← nm2]
  exact def_top T ["dialect"] C2 B2 (glo_mk T [] [("_is_line_char", f1)] ht (fun q hq => nomatch hq) (by
      intro q hq
      simp only [List.mem_cons, List.not_mem_nil, or_false] at hq
      subst hq
      · exact h0
      ) hb) _ hd ok2 bd2

theorem ok4 : defOk (drec PySem.Challenge.pw_sx_r001_1 4) ["text", "dialect"] B4 = true := by decide +kernel
theorem nm4 : (drec PySem.Challenge.pw_sx_r001_1 4).name = Str.ofString "parse_table" := rfl
theorem bd4 (pm cd doc : Value) (vs : List Value) (h : vs.length = ["text", "dialect"].length) : bindArgs (Calls.docDef (drec PySem.Challenge.pw_sx_r001_1 4).name (drec PySem.Challenge.pw_sx_r001_1 4).params (drec PySem.Challenge.pw_sx_r001_1 4).body (drec PySem.Challenge.pw_sx_r001_1 4).scope pm cd doc) ⟨vs, []⟩ = pure ((["text", "dialect"].map Str.ofString).zip vs) := by
  obtain ⟨a0, a1, rfl⟩ := lns2 h
  rfl
theorem link4 (T : Top p loose mean mg mb base0) (ht : 0 < t0) (hb : ∀ x ∈ bnames, mg (Str.ofString x) = none)
    (hd : drec PySem.Challenge.pw_sx_r001_1 4 ∈ recsOf p) (h0 : ∃ a, mg (Str.ofString "_check_dialect") = some (.ref a) ∧ CallOK prog w base0 t0 n a f2) :
    ∃ a, mg (Str.ofString "parse_table") = some (.ref a) ∧ CallOK prog w base0 t0 (n + 1) a f4 := by
  rw [← nm4]
  exact def_top T ["text", "dialect"] C4 B4 (glo_mk T [] [("_check_dialect", f2)] ht (fun q hq => nomatch hq) (by
      intro q hq
      simp only [List.mem_cons, List.not_mem_nil, or_false] at hq
      subst hq
      · exact h0
      ) hb) _ hd ok4 bd4

theorem ok6 : defOk (drec PySem.Challenge.pw_sx_r001_1 6) ["field", "delimiter", "quote"] B6 = true := by decide +kernel
theorem nm6 : (drec PySem.Challenge.pw_sx_r001_1 6).name = Str.ofString "_needs_quotes" := rfl
theorem bd6 (pm cd doc : Value) (vs : List Value) (h : vs.length = ["field", "delimiter", "quote"].length) : bindArgs (Calls.docDef (drec PySem.Challenge.pw_sx_r001_1 6).name (drec PySem.Challenge.pw_sx_r001_1 6).params (drec PySem.Challenge.pw_sx_r001_1 6).body (drec PySem.Challenge.pw_sx_r001_1 6).scope pm cd doc) ⟨vs, []⟩ = pure ((["field", "delimiter", "quote"].map Str.ofString).zip vs) := by
  obtain ⟨a0, a1, a2, rfl⟩ := lns3 h
  rfl
theorem link6 (T : Top p loose mean mg mb base0) (ht : 0 < t0) (hb : ∀ x ∈ bnames, mg (Str.ofString x) = none)
    (hd : drec PySem.Challenge.pw_sx_r001_1 6 ∈ recsOf p)  :
    ∃ a, mg (Str.ofString "_needs_quotes") = some (.ref a) ∧ CallOK prog w base0 t0 (n + 1) a f6 := by
  rw [← nm6]
  exact def_top T ["field", "delimiter", "quote"] C6 B6 (glo_mk T [] [] ht (fun q hq => nomatch hq) (by intro q hq; cases hq) hb) _ hd ok6 bd6

theorem ok7 : defOk (drec PySem.Challenge.pw_sx_r001_1 7) ["field", "delimiter", "quote"] B7 = true := by decide +kernel
theorem nm7 : (drec PySem.Challenge.pw_sx_r001_1 7).name = Str.ofString "_format_checked" := rfl
theorem bd7 (pm cd doc : Value) (vs : List Value) (h : vs.length = ["field", "delimiter", "quote"].length) : bindArgs (Calls.docDef (drec PySem.Challenge.pw_sx_r001_1 7).name (drec PySem.Challenge.pw_sx_r001_1 7).params (drec PySem.Challenge.pw_sx_r001_1 7).body (drec PySem.Challenge.pw_sx_r001_1 7).scope pm cd doc) ⟨vs, []⟩ = pure ((["field", "delimiter", "quote"].map Str.ofString).zip vs) := by
  obtain ⟨a0, a1, a2, rfl⟩ := lns3 h
  rfl
theorem link7 (T : Top p loose mean mg mb base0) (ht : 0 < t0) (hb : ∀ x ∈ bnames, mg (Str.ofString x) = none)
    (hd : drec PySem.Challenge.pw_sx_r001_1 7 ∈ recsOf p) (h0 : ∃ a, mg (Str.ofString "_needs_quotes") = some (.ref a) ∧ CallOK prog w base0 t0 n a f6) :
    ∃ a, mg (Str.ofString "_format_checked") = some (.ref a) ∧ CallOK prog w base0 t0 (n + 1) a f7 := by
  rw [← nm7]
  exact def_top T ["field", "delimiter", "quote"] C7 B7 (glo_mk T [] [("_needs_quotes", f6)] ht (fun q hq => nomatch hq) (by
      intro q hq
      simp only [List.mem_cons, List.not_mem_nil, or_false] at hq
      subst hq
      · exact h0
      ) hb) _ hd ok7 bd7

theorem ok8 : defOk (drec PySem.Challenge.pw_sx_r001_1 8) ["field", "dialect"] B8 = true := by decide +kernel
theorem nm8 : (drec PySem.Challenge.pw_sx_r001_1 8).name = Str.ofString "format_field" := rfl
theorem bd8 (pm cd doc : Value) (vs : List Value) (h : vs.length = ["field", "dialect"].length) : bindArgs (Calls.docDef (drec PySem.Challenge.pw_sx_r001_1 8).name (drec PySem.Challenge.pw_sx_r001_1 8).params (drec PySem.Challenge.pw_sx_r001_1 8).body (drec PySem.Challenge.pw_sx_r001_1 8).scope pm cd doc) ⟨vs, []⟩ = pure ((["field", "dialect"].map Str.ofString).zip vs) := by
  obtain ⟨a0, a1, rfl⟩ := lns2 h
  rfl
theorem link8 (T : Top p loose mean mg mb base0) (ht : 0 < t0) (hb : ∀ x ∈ bnames, mg (Str.ofString x) = none)
    (hd : drec PySem.Challenge.pw_sx_r001_1 8 ∈ recsOf p) (h0 : ∃ a, mg (Str.ofString "_check_dialect") = some (.ref a) ∧ CallOK prog w base0 t0 n a f2) (h1 : ∃ a, mg (Str.ofString "_format_checked") = some (.ref a) ∧ CallOK prog w base0 t0 n a f7) :
    ∃ a, mg (Str.ofString "format_field") = some (.ref a) ∧ CallOK prog w base0 t0 (n + 1) a f8 := by
  rw [← nm8]
  exact def_top T ["field", "dialect"] C8 B8 (glo_mk T [] [("_check_dialect", f2), ("_format_checked", f7)] ht (fun q hq => nomatch hq) (by
      intro q hq
      simp only [List.mem_cons, List.not_mem_nil, or_false] at hq
      rcases hq with rfl | rfl
      · exact h0
      · exact h1
      ) hb) _ hd ok8 bd8

theorem ok9 : defOk (drec PySem.Challenge.pw_sx_r001_1 9) ["table", "dialect"] B9 = true := by decide +kernel
theorem nm9 : (drec PySem.Challenge.pw_sx_r001_1 9).name = Str.ofString "format_table" := rfl
theorem bd9 (pm cd doc : Value) (vs : List Value) (h : vs.length = ["table", "dialect"].length) : bindArgs (Calls.docDef (drec PySem.Challenge.pw_sx_r001_1 9).name (drec PySem.Challenge.pw_sx_r001_1 9).params (drec PySem.Challenge.pw_sx_r001_1 9).body (drec PySem.Challenge.pw_sx_r001_1 9).scope pm cd doc) ⟨vs, []⟩ = pure ((["table", "dialect"].map Str.ofString).zip vs) := by
  obtain ⟨a0, a1, rfl⟩ := lns2 h
  rfl
theorem link9 (T : Top p loose mean mg mb base0) (ht : 0 < t0) (hb : ∀ x ∈ bnames, mg (Str.ofString x) = none)
    (hd : drec PySem.Challenge.pw_sx_r001_1 9 ∈ recsOf p) (h0 : ∃ a, mg (Str.ofString "_check_dialect") = some (.ref a) ∧ CallOK prog w base0 t0 n a f2) (h1 : ∃ a, mg (Str.ofString "_format_checked") = some (.ref a) ∧ CallOK prog w base0 t0 n a f7) :
    ∃ a, mg (Str.ofString "format_table") = some (.ref a) ∧ CallOK prog w base0 t0 (n + 1) a f9 := by
  rw [← nm9]
  exact def_top T ["table", "dialect"] C9 B9 (glo_mk T [] [("_check_dialect", f2), ("_format_checked", f7)] ht (fun q hq => nomatch hq) (by
      intro q hq
      simp only [List.mem_cons, List.not_mem_nil, or_false] at hq
      rcases hq with rfl | rfl
      · exact h0
      · exact h1
      ) hb) _ hd ok9 bd9

theorem ok15 : defOk (drec PySem.Challenge.pw_sx_r001_1 15) ["size", "cells"] B15 = true := by decide +kernel
theorem nm15 : (drec PySem.Challenge.pw_sx_r001_1 15).name = Str.ofString "_law_row" := rfl
theorem bd15 (pm cd doc : Value) (vs : List Value) (h : vs.length = ["size", "cells"].length) : bindArgs (Calls.docDef (drec PySem.Challenge.pw_sx_r001_1 15).name (drec PySem.Challenge.pw_sx_r001_1 15).params (drec PySem.Challenge.pw_sx_r001_1 15).body (drec PySem.Challenge.pw_sx_r001_1 15).scope pm cd doc) ⟨vs, []⟩ = pure ((["size", "cells"].map Str.ofString).zip vs) := by
  obtain ⟨a0, a1, rfl⟩ := lns2 h
  rfl
theorem link15 (T : Top p loose mean mg mb base0) (ht : 0 < t0) (hb : ∀ x ∈ bnames, mg (Str.ofString x) = none)
    (hd : drec PySem.Challenge.pw_sx_r001_1 15 ∈ recsOf p) (g0 : TabAt mg base0 t0 ("_law_CHARS", gCh))  :
    ∃ a, mg (Str.ofString "_law_row") = some (.ref a) ∧ CallOK prog w base0 t0 (n + 1) a f15 := by
  rw [← nm15]
  exact def_top T ["size", "cells"] C15 B15 (glo_mk T [("_law_CHARS", gCh)] [] ht (by
      intro q hq
      simp only [List.mem_cons, List.not_mem_nil, or_false] at hq
      subst hq
      · exact g0
      ) (by intro q hq; cases hq) hb) _ hd ok15 bd15

theorem ok16 : defOk (drec PySem.Challenge.pw_sx_r001_1 16) ["field", "dialect"] B16 = true := by decide +kernel
theorem nm16 : (drec PySem.Challenge.pw_sx_r001_1 16).name = Str.ofString "_law_must" := rfl
theorem bd16 (pm cd doc : Value) (vs : List Value) (h : vs.length = ["field", "dialect"].length) : bindArgs (Calls.docDef (drec PySem.Challenge.pw_sx_r001_1 16).name (drec PySem.Challenge.pw_sx_r001_1 16).params (drec PySem.Challenge.pw_sx_r001_1 16).body (drec PySem.Challenge.pw_sx_r001_1 16).scope pm cd doc) ⟨vs, []⟩ = pure ((["field", "dialect"].map Str.ofString).zip vs) := by
  obtain ⟨a0, a1, rfl⟩ := lns2 h
  rfl
theorem link16 (T : Top p loose mean mg mb base0) (ht : 0 < t0) (hb : ∀ x ∈ bnames, mg (Str.ofString x) = none)
    (hd : drec PySem.Challenge.pw_sx_r001_1 16 ∈ recsOf p)  :
    ∃ a, mg (Str.ofString "_law_must") = some (.ref a) ∧ CallOK prog w base0 t0 (n + 1) a f16 := by
  rw [← nm16]
  exact def_top T ["field", "dialect"] C16 B16 (glo_mk T [] [] ht (fun q hq => nomatch hq) (by intro q hq; cases hq) hb) _ hd ok16 bd16

theorem ok17 : defOk (drec PySem.Challenge.pw_sx_r001_1 17) ["row", "full", "end", "dialect"] B17 = true := by decide +kernel
theorem nm17 : (drec PySem.Challenge.pw_sx_r001_1 17).name = Str.ofString "_law_pieces" := rfl
theorem bd17 (pm cd doc : Value) (vs : List Value) (h : vs.length = ["row", "full", "end", "dialect"].length) : bindArgs (Calls.docDef (drec PySem.Challenge.pw_sx_r001_1 17).name (drec PySem.Challenge.pw_sx_r001_1 17).params (drec PySem.Challenge.pw_sx_r001_1 17).body (drec PySem.Challenge.pw_sx_r001_1 17).scope pm cd doc) ⟨vs, []⟩ = pure ((["row", "full", "end", "dialect"].map Str.ofString).zip vs) := by
  obtain ⟨a0, a1, a2, a3, rfl⟩ := lns4 h
  rfl
theorem link17 (T : Top p loose mean mg mb base0) (ht : 0 < t0) (hb : ∀ x ∈ bnames, mg (Str.ofString x) = none)
    (hd : drec PySem.Challenge.pw_sx_r001_1 17 ∈ recsOf p) (h0 : ∃ a, mg (Str.ofString "_law_must") = some (.ref a) ∧ CallOK prog w base0 t0 n a f16) :
    ∃ a, mg (Str.ofString "_law_pieces") = some (.ref a) ∧ CallOK prog w base0 t0 (n + 1) a f17 := by
  rw [← nm17]
  exact def_top T ["row", "full", "end", "dialect"] C17 B17 (glo_mk T [] [("_law_must", f16)] ht (fun q hq => nomatch hq) (by
      intro q hq
      simp only [List.mem_cons, List.not_mem_nil, or_false] at hq
      subst hq
      · exact h0
      ) hb) _ hd ok17 bd17

theorem ok18 : defOk (drec PySem.Challenge.pw_sx_r001_1 18) ["table", "dialect"] B18 = true := by decide +kernel
theorem nm18 : (drec PySem.Challenge.pw_sx_r001_1 18).name = Str.ofString "_law_text" := rfl
theorem bd18 (pm cd doc : Value) (vs : List Value) (h : vs.length = ["table", "dialect"].length) : bindArgs (Calls.docDef (drec PySem.Challenge.pw_sx_r001_1 18).name (drec PySem.Challenge.pw_sx_r001_1 18).params (drec PySem.Challenge.pw_sx_r001_1 18).body (drec PySem.Challenge.pw_sx_r001_1 18).scope pm cd doc) ⟨vs, []⟩ = pure ((["table", "dialect"].map Str.ofString).zip vs) := by
  obtain ⟨a0, a1, rfl⟩ := lns2 h
  rfl
theorem link18 (T : Top p loose mean mg mb base0) (ht : 0 < t0) (hb : ∀ x ∈ bnames, mg (Str.ofString x) = none)
    (hd : drec PySem.Challenge.pw_sx_r001_1 18 ∈ recsOf p) (h0 : ∃ a, mg (Str.ofString "_law_pieces") = some (.ref a) ∧ CallOK prog w base0 t0 n a f17) :
    ∃ a, mg (Str.ofString "_law_text") = some (.ref a) ∧ CallOK prog w base0 t0 (n + 1) a f18 := by
  rw [← nm18]
  exact def_top T ["table", "dialect"] C18 B18 (glo_mk T [] [("_law_pieces", f17)] ht (fun q hq => nomatch hq) (by
      intro q hq
      simp only [List.mem_cons, List.not_mem_nil, or_false] at hq
      subst hq
      · exact h0
      ) hb) _ hd ok18 bd18

theorem ok19 : defOk (drec PySem.Challenge.pw_sx_r001_1 19) ["kind", "front", "rest", "quote"] B19 = true := by decide +kernel
theorem nm19 : (drec PySem.Challenge.pw_sx_r001_1 19).name = Str.ofString "_law_damage" := rfl
theorem bd19 (pm cd doc : Value) (vs : List Value) (h : vs.length = ["kind", "front", "rest", "quote"].length) : bindArgs (Calls.docDef (drec PySem.Challenge.pw_sx_r001_1 19).name (drec PySem.Challenge.pw_sx_r001_1 19).params (drec PySem.Challenge.pw_sx_r001_1 19).body (drec PySem.Challenge.pw_sx_r001_1 19).scope pm cd doc) ⟨vs, []⟩ = pure ((["kind", "front", "rest", "quote"].map Str.ofString).zip vs) := by
  obtain ⟨a0, a1, a2, a3, rfl⟩ := lns4 h
  rfl
theorem link19 (T : Top p loose mean mg mb base0) (ht : 0 < t0) (hb : ∀ x ∈ bnames, mg (Str.ofString x) = none)
    (hd : drec PySem.Challenge.pw_sx_r001_1 19 ∈ recsOf p)  :
    ∃ a, mg (Str.ofString "_law_damage") = some (.ref a) ∧ CallOK prog w base0 t0 (n + 1) a f19 := by
  rw [← nm19]
  exact def_top T ["kind", "front", "rest", "quote"] C19 B19 (glo_mk T [] [] ht (fun q hq => nomatch hq) (by intro q hq; cases hq) hb) _ hd ok19 bd19

theorem ok20 : defOk (drec PySem.Challenge.pw_sx_r001_1 20) ["text", "dialect"] B20 = true := by decide +kernel
theorem nm20 : (drec PySem.Challenge.pw_sx_r001_1 20).name = Str.ofString "_law_read" := rfl
theorem bd20 (pm cd doc : Value) (vs : List Value) (h : vs.length = ["text", "dialect"].length) : bindArgs (Calls.docDef (drec PySem.Challenge.pw_sx_r001_1 20).name (drec PySem.Challenge.pw_sx_r001_1 20).params (drec PySem.Challenge.pw_sx_r001_1 20).body (drec PySem.Challenge.pw_sx_r001_1 20).scope pm cd doc) ⟨vs, []⟩ = pure ((["text", "dialect"].map Str.ofString).zip vs) := by
  obtain ⟨a0, a1, rfl⟩ := lns2 h
  rfl
theorem link20 (T : Top p loose mean mg mb base0) (ht : 0 < t0) (hb : ∀ x ∈ bnames, mg (Str.ofString x) = none)
    (hd : drec PySem.Challenge.pw_sx_r001_1 20 ∈ recsOf p) (h0 : ∃ a, mg (Str.ofString "parse_table") = some (.ref a) ∧ CallOK prog w base0 t0 n a f4) :
    ∃ a, mg (Str.ofString "_law_read") = some (.ref a) ∧ CallOK prog w base0 t0 (n + 1) a f20 := by
  rw [← nm20]
  exact def_top T ["text", "dialect"] C20 B20 (glo_mk T [] [("parse_table", f4)] ht (fun q hq => nomatch hq) (by
      intro q hq
      simp only [List.mem_cons, List.not_mem_nil, or_false] at hq
      subst hq
      · exact h0
      ) hb) _ hd ok20 bd20

theorem ok21 : defOk (drec PySem.Challenge.pw_sx_r001_1 21) ["table", "dialect"] B21 = true := by decide +kernel
theorem nm21 : (drec PySem.Challenge.pw_sx_r001_1 21).name = Str.ofString "_law_write" := rfl
theorem bd21 (pm cd doc : Value) (vs : List Value) (h : vs.length = ["table", "dialect"].length) : bindArgs (Calls.docDef (drec PySem.Challenge.pw_sx_r001_1 21).name (drec PySem.Challenge.pw_sx_r001_1 21).params (drec PySem.Challenge.pw_sx_r001_1 21).body (drec PySem.Challenge.pw_sx_r001_1 21).scope pm cd doc) ⟨vs, []⟩ = pure ((["table", "dialect"].map Str.ofString).zip vs) := by
  obtain ⟨a0, a1, rfl⟩ := lns2 h
  rfl
theorem link21 (T : Top p loose mean mg mb base0) (ht : 0 < t0) (hb : ∀ x ∈ bnames, mg (Str.ofString x) = none)
    (hd : drec PySem.Challenge.pw_sx_r001_1 21 ∈ recsOf p) (h0 : ∃ a, mg (Str.ofString "format_table") = some (.ref a) ∧ CallOK prog w base0 t0 n a f9) :
    ∃ a, mg (Str.ofString "_law_write") = some (.ref a) ∧ CallOK prog w base0 t0 (n + 1) a f21 := by
  rw [← nm21]
  exact def_top T ["table", "dialect"] C21 B21 (glo_mk T [] [("format_table", f9)] ht (fun q hq => nomatch hq) (by
      intro q hq
      simp only [List.mem_cons, List.not_mem_nil, or_false] at hq
      subst hq
      · exact h0
      ) hb) _ hd ok21 bd21

theorem ok22 : defOk (drec PySem.Challenge.pw_sx_r001_1 22) ["field", "dialect"] B22 = true := by decide +kernel
theorem nm22 : (drec PySem.Challenge.pw_sx_r001_1 22).name = Str.ofString "_law_field" := rfl
theorem bd22 (pm cd doc : Value) (vs : List Value) (h : vs.length = ["field", "dialect"].length) : bindArgs (Calls.docDef (drec PySem.Challenge.pw_sx_r001_1 22).name (drec PySem.Challenge.pw_sx_r001_1 22).params (drec PySem.Challenge.pw_sx_r001_1 22).body (drec PySem.Challenge.pw_sx_r001_1 22).scope pm cd doc) ⟨vs, []⟩ = pure ((["field", "dialect"].map Str.ofString).zip vs) := by
  obtain ⟨a0, a1, rfl⟩ := lns2 h
  rfl
theorem link22 (T : Top p loose mean mg mb base0) (ht : 0 < t0) (hb : ∀ x ∈ bnames, mg (Str.ofString x) = none)
    (hd : drec PySem.Challenge.pw_sx_r001_1 22 ∈ recsOf p) (h0 : ∃ a, mg (Str.ofString "format_field") = some (.ref a) ∧ CallOK prog w base0 t0 n a f8) :
    ∃ a, mg (Str.ofString "_law_field") = some (.ref a) ∧ CallOK prog w base0 t0 (n + 1) a f22 := by
  rw [← nm22]
  exact def_top T ["field", "dialect"] C22 B22 (glo_mk T [] [("format_field", f8)] ht (fun q hq => nomatch hq) (by
      intro q hq
      simp only [List.mem_cons, List.not_mem_nil, or_false] at hq
      subst hq
      · exact h0
      ) hb) _ hd ok22 bd22

theorem ok23 : defOk (drec PySem.Challenge.pw_sx_r001_1 23) ["got", "table"] B23 = true := by decide +kernel
theorem nm23 : (drec PySem.Challenge.pw_sx_r001_1 23).name = Str.ofString "_law_same" := rfl
theorem bd23 (pm cd doc : Value) (vs : List Value) (h : vs.length = ["got", "table"].length) : bindArgs (Calls.docDef (drec PySem.Challenge.pw_sx_r001_1 23).name (drec PySem.Challenge.pw_sx_r001_1 23).params (drec PySem.Challenge.pw_sx_r001_1 23).body (drec PySem.Challenge.pw_sx_r001_1 23).scope pm cd doc) ⟨vs, []⟩ = pure ((["got", "table"].map Str.ofString).zip vs) := by
  obtain ⟨a0, a1, rfl⟩ := lns2 h
  rfl
theorem link23 (T : Top p loose mean mg mb base0) (ht : 0 < t0) (hb : ∀ x ∈ bnames, mg (Str.ofString x) = none)
    (hd : drec PySem.Challenge.pw_sx_r001_1 23 ∈ recsOf p)  :
    ∃ a, mg (Str.ofString "_law_same") = some (.ref a) ∧ CallOK prog w base0 t0 (n + 1) a f23 := by
  rw [← nm23]
  exact def_top T ["got", "table"] C23 B23 (glo_mk T [] [] ht (fun q hq => nomatch hq) (by intro q hq; cases hq) hb) _ hd ok23 bd23

theorem ok24 : defOk (drec PySem.Challenge.pw_sx_r001_1 24) ["script"] B24 = true := by decide +kernel
theorem nm24 : (drec PySem.Challenge.pw_sx_r001_1 24).name = Str.ofString "law" := rfl
theorem bd24 (pm cd doc : Value) (vs : List Value) (h : vs.length = ["script"].length) : bindArgs (Calls.docDef (drec PySem.Challenge.pw_sx_r001_1 24).name (drec PySem.Challenge.pw_sx_r001_1 24).params (drec PySem.Challenge.pw_sx_r001_1 24).body (drec PySem.Challenge.pw_sx_r001_1 24).scope pm cd doc) ⟨vs, []⟩ = pure ((["script"].map Str.ofString).zip vs) := by
  obtain ⟨a0, rfl⟩ := lns1 h
  rfl
theorem link24 (T : Top p loose mean mg mb base0) (ht : 0 < t0) (hb : ∀ x ∈ bnames, mg (Str.ofString x) = none)
    (hd : drec PySem.Challenge.pw_sx_r001_1 24 ∈ recsOf p) (g0 : TabAt mg base0 t0 ("_law_GOOD", gGood)) (g1 : TabAt mg base0 t0 ("_law_BAD", gBad)) (g2 : TabAt mg base0 t0 ("_law_ENDS", gEnds)) (h0 : ∃ a, mg (Str.ofString "_law_row") = some (.ref a) ∧ CallOK prog w base0 t0 n a f15) (h1 : ∃ a, mg (Str.ofString "_law_pieces") = some (.ref a) ∧ CallOK prog w base0 t0 n a f17) (h2 : ∃ a, mg (Str.ofString "_law_read") = some (.ref a) ∧ CallOK prog w base0 t0 n a f20) (h3 : ∃ a, mg (Str.ofString "_law_same") = some (.ref a) ∧ CallOK prog w base0 t0 n a f23) (h4 : ∃ a, mg (Str.ofString "_law_write") = some (.ref a) ∧ CallOK prog w base0 t0 n a f21) (h5 : ∃ a, mg (Str.ofString "_law_text") = some (.ref a) ∧ CallOK prog w base0 t0 n a f18) (h6 : ∃ a, mg (Str.ofString "_law_field") = some (.ref a) ∧ CallOK prog w base0 t0 n a f22) (h7 : ∃ a, mg (Str.ofString "_law_damage") = some (.ref a) ∧ CallOK prog w base0 t0 n a f19) :
    ∃ a, mg (Str.ofString "law") = some (.ref a) ∧ CallOK prog w base0 t0 (n + 1) a f24 := by
  rw [← nm24]
  exact def_top T ["script"] C24 B24 (glo_mk T [("_law_GOOD", gGood), ("_law_BAD", gBad), ("_law_ENDS", gEnds)] [("_law_row", f15), ("_law_pieces", f17), ("_law_read", f20), ("_law_same", f23), ("_law_write", f21), ("_law_text", f18), ("_law_field", f22), ("_law_damage", f19)] ht (by
      intro q hq
      simp only [List.mem_cons, List.not_mem_nil, or_false] at hq
      rcases hq with rfl | rfl | rfl
      · exact g0
      · exact g1
      · exact g2
      ) (by
      intro q hq
      simp only [List.mem_cons, List.not_mem_nil, or_false] at hq
      rcases hq with rfl | rfl | rfl | rfl | rfl | rfl | rfl | rfl
      · exact h0
      · exact h1
      · exact h2
      · exact h3
      · exact h4
      · exact h5
      · exact h6
      · exact h7
      ) hb) _ hd ok24 bd24

theorem call_up {x : Str} {k : Nat} {f : List PyData → Out PyData} (h : ∃ a, mg x = some (.ref a) ∧ CallOK prog w base0 t0 k a f) (hk : k ≤ n) : ∃ a, mg x = some (.ref a) ∧ CallOK prog w base0 t0 n a f :=
  let ⟨a, h1, h2⟩ := h; ⟨a, h1, h2.mono hk⟩
end
end Mine

open PySem PySem.W PyProof.Rows PySem.W.X PySem.W.ZRun
set_option Elab.async false
namespace Mine
noncomputable def tabs1 : List (String × PyData) := [("_law_CHARS", gCh), ("_law_ENDS", gEnds), ("_law_GOOD", gGood), ("_law_BAD", gBad)]
theorem left1 : LeftO PySem.Challenge.rw_sx_r001_1.row.prog (view PySem.Challenge.pw_sx_r001_1) [] (fun s => xlAt (view PySem.Challenge.pw_sx_r001_1) [] s && recOk PySem.Challenge.rw_sx_r001_1.row.records s) (obs tabs1 446) (fun _ => (true, 446)) 3000 := by
  intro w
  kernel_rfl
end Mine
set_option maxRecDepth 100000 in
set_option maxHeartbeats 8000000 in
theorem PySem.Challenge.cw_sx_r001_1_holds : PySem.Challenge.rw_sx_r001_1.Holds := by
  w_on; o_law
  refine holds_openX (XP := XL (Mine.view PySem.Challenge.pw_sx_r001_1) []) (d := Mine.drec PySem.Challenge.pw_sx_r001_1 24) (kwd := []) Mine.left1 (fun s e => xl_of s (Bool.and_eq_true_iff.mp e).1) XL.keeps (by kernel_rfl) (by kernel_rfl) (by kernel_rfl) (fun s e => recFacts_of (Bool.and_eq_true_iff.mp e).2) (by rfl) (by assumption) (by decide +kernel) ⟨rfl, rfl, rfl, rfl, rfl, by decide +kernel⟩ ?hw ?hc
  case hw => w_witness2
  intro w s₀ s₁ mg mb G y fa o pm cd doc dV kV ho hd hcd hD hmg hg args vals as L hpre hlay hrd hwl hlo
  have hkp := Laid.keeps L
  refine Ground.open G ?_
  intro T B D TE TW
  obtain ⟨hb, htb, ht0⟩ := Mine.obs_facts hkp T.g y
  wrow_args hpre hlay hrd hwl hlo
  have htk := script_toks L ht0
  rename_i zi zs zl zL zr1 zl2 zA zB zv zC zra zH zw zr0 zr zI zc1 zc2 zc3
  have k1 := Mine.link1 (prog := PySem.Challenge.rw_sx_r001_1.row.prog) (w := w) (t0 := 446) (n := 0) T (by decide) hb (List.mem_of_getElem? (i := 0) (by kernel_rfl))
  have k2 := Mine.link2 (prog := PySem.Challenge.rw_sx_r001_1.row.prog) (w := w) (t0 := 446) (n := 1) T (by decide) hb (List.mem_of_getElem? (i := 1) (by kernel_rfl)) k1
  have k4 := Mine.link4 (prog := PySem.Challenge.rw_sx_r001_1.row.prog) (w := w) (t0 := 446) (n := 2) T (by decide) hb (List.mem_of_getElem? (i := 2) (by kernel_rfl)) k2
  have k6 := Mine.link6 (prog := PySem.Challenge.rw_sx_r001_1.row.prog) (w := w) (t0 := 446) (n := 0) T (by decide) hb (List.mem_of_getElem? (i := 3) (by kernel_rfl))
  have k7 := Mine.link7 (prog := PySem.Challenge.rw_sx_r001_1.row.prog) (w := w) (t0 := 446) (n := 1) T (by decide) hb (List.mem_of_getElem? (i := 4) (by kernel_rfl)) k6
  have k8 := Mine.link8 (prog := PySem.Challenge.rw_sx_r001_1.row.prog) (w := w) (t0 := 446) (n := 2) T (by decide) hb (List.mem_of_getElem? (i := 5) (by kernel_rfl)) k2 k7
  have k9 := Mine.link9 (prog := PySem.Challenge.rw_sx_r001_1.row.prog) (w := w) (t0 := 446) (n := 2) T (by decide) hb (List.mem_of_getElem? (i := 6) (by kernel_rfl)) k2 k7
  have k15 := Mine.link15 (prog := PySem.Challenge.rw_sx_r001_1.row.prog) (w := w) (t0 := 446) (n := 0) T (by decide) hb (List.mem_of_getElem? (i := 7) (by kernel_rfl)) (htb _ (.head _))
  have k16 := Mine.link16 (prog := PySem.Challenge.rw_sx_r001_1.row.prog) (w := w) (t0 := 446) (n := 0) T (by decide) hb (List.mem_of_getElem? (i := 8) (by kernel_rfl))
  have k17 := Mine.link17 (prog := PySem.Challenge.rw_sx_r001_1.row.prog) (w := w) (t0 := 446) (n := 1) T (by decide) hb (List.mem_of_getElem? (i := 9) (by kernel_rfl)) k16
  have k18 := Mine.link18 (prog := PySem.Challenge.rw_sx_r001_1.row.prog) (w := w) (t0 := 446) (n := 2) T (by decide) hb (List.mem_of_getElem? (i := 10) (by kernel_rfl)) k17
  have k19 := Mine.link19 (prog := PySem.Challenge.rw_sx_r001_1.row.prog) (w := w) (t0 := 446) (n := 0) T (by decide) hb (List.mem_of_getElem? (i := 11) (by kernel_rfl))
  have k20 := Mine.link20 (prog := PySem.Challenge.rw_sx_r001_1.row.prog) (w := w) (t0 := 446) (n := 3) T (by decide) hb (List.mem_of_getElem? (i := 12) (by kernel_rfl)) k4
  have k21 := Mine.link21 (prog := PySem.Challenge.rw_sx_r001_1.row.prog) (w := w) (t0 := 446) (n := 3) T (by decide) hb (List.mem_of_getElem? (i := 13) (by kernel_rfl)) k9
  have k22 := Mine.link22 (prog := PySem.Challenge.rw_sx_r001_1.row.prog) (w := w) (t0 := 446) (n := 3) T (by decide) hb (List.mem_of_getElem? (i := 14) (by kernel_rfl)) k8
  have k23 := Mine.link23 (prog := PySem.Challenge.rw_sx_r001_1.row.prog) (w := w) (t0 := 446) (n := 0) T (by decide) hb (List.mem_of_getElem? (i := 15) (by kernel_rfl))
  have k24 := Mine.link24 (prog := PySem.Challenge.rw_sx_r001_1.row.prog) (w := w) (t0 := 446) (n := 4) T (by decide) hb (List.mem_of_getElem? (i := 16) (by kernel_rfl)) (htb _ (.tail _ (.tail _ (.head _)))) (htb _ (.tail _ (.tail _ (.tail _ (.head _))))) (htb _ (.tail _ (.head _))) (Mine.call_up k15 (by decide)) (Mine.call_up k17 (by decide)) k20 (Mine.call_up k23 (by decide)) k21 (Mine.call_up k18 (by decide)) k22 (Mine.call_up k19 (by decide))
  obtain ⟨a, ha, hc⟩ := k24
  have hfa : a = fa := Mine.same_ref ha Mine.nm24 hmg
  subst hfa
  exact Mine.top_law hc (by decide) htk zH zI (Mine.f24_eq zi (by omega)) fun h' tk' hk => (by refine Mine.good_true hg hk (fun _ => rfl) ?_; first | rfl | wrow_post)
